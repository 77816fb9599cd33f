/- The functions of the program come to the typed ones. No condition. -/
import Derived.Test.YtcdffihcfeajfaaGreatEq2
namespace Go.Proofs.YtcdffihcfeajfaaGreat
open Go Go.Proofs Go.Proofs.YtcdffihcfeajfaaGreat.Am
set_option maxHeartbeats 4000000
set_option linter.unusedVariables false
set_option linter.unusedSimpArgs false
set_option linter.defProp false
set_option maxRecDepth 100000
theorem e_impl_PutAway (n : Nat) {R1} {l : List Slot} (xxId : Int) (xxKind : Int) (xxColour : Int) (xxSize : Int) (xxWorth : Int) [H1 : EncL cSlot R1 l] : CP T (n + 8) 137 [.imm 3 R1, .agg [.i .i64 xxId, .i .i64 xxKind, .i .i64 xxColour, .i .i64 xxSize, .i .i64 xxWorth]] = (impl_PutAway l (⟨xxId, xxKind, xxColour, xxSize, xxWorth⟩ : Thing)).map fun r => .tup [.own 3 (r.1.map cSlot), .b r.2] := by
  obtain ⟨rfl⟩ := H1
  rw [CP_eq]
  simp -dsimp +contextual only [↓evA, eZ, Nat.reduceAdd, Nat.reduceMul, Nat.reduceBEq, Nat.reduceLeDiff, Nat.reduceLT, Tryz.func137, Tryz.f137, a137, e_slices_Clone_Slot, e_impl_freeFor, e_impl_AreSlots, e_impl_IsThing, e_impl_slotWith]
  try simp only [impl_PutAway, eY]
  all_goals first | rfl | (simp +contextual only [evN] <;> rfl)
theorem e_impl_Mod (n : Nat) (p : Int) (q : Int) : CP T (n + 2) 283 [.i .i64 p, .i .i64 q] = (impl_Mod p q).map fun r => .i .i64 r := by
  rw [CP_eq]
  simp -dsimp +contextual only [↓evA, eZ, Nat.reduceAdd, Nat.reduceMul, Nat.reduceBEq, Nat.reduceLeDiff, Nat.reduceLT, Tryz.func283, Tryz.f283, a283, e_impl_InRange]
  try simp only [impl_Mod, eY]
  all_goals rfl
theorem e_impl_fold (n : Nat) (acc : Int) (v : Int) : CP T (n + 3) 274 [.i .i64 acc, .i .i64 v] = (impl_fold acc v).map fun r => .i .i64 r := by
  rw [CP_eq]
  simp -dsimp +contextual only [↓evA, eZ, Nat.reduceAdd, Nat.reduceMul, Nat.reduceBEq, Nat.reduceLeDiff, Nat.reduceLT, Tryz.func274, Tryz.f274, a274, e_impl_Mod]
  try simp only [impl_fold, eY]
  all_goals rfl
theorem e_impl_Hash_l3 (n : Nat) (acc : Int) {R1} {t6 : List Int} (t7 : Int) (t8 : Int) [H1 : EncL c_i64 R1 t6] : LP T (n + 4) 256 3 (frm [(3, .i .i64 acc), (6, .imm 1 R1), (7, .i .i64 t7), (8, .i .i64 t8)]) [] =
    (run (impl_Hash_l3 t6 t7) (acc, t8)).map (fun (zr : Int) => (XE.exit 0, frm [(3, .i .i64 zr)], [])) := by
  obtain ⟨rfl⟩ := H1
  rw [LP_eq]
  simp -dsimp only [↓evA, evB, lpG_eq, Tryz.func256, Tryz.f256, a256, TP, TZ, Nat.reduceAdd, Nat.reduceMul, Nat.reduceBEq, Nat.reduceLeDiff, Nat.reduceLT]
  refine run_map (fun (zs : Int × Int) => (frm [(3, .i .i64 zs.1), (6, .imm 1 (t6.map c_i64)), (7, .i .i64 t7), (8, .i .i64 zs.2)], [])) (fun (zr : Int) => (XE.exit 0, frm [(3, .i .i64 zr)], [])) ?_ (acc, t8)
  rintro ⟨acc, t8⟩
  simp -dsimp +contextual only [↓evA, eZ, Nat.reduceAdd, Nat.reduceMul, Nat.reduceBEq, Nat.reduceLeDiff, Nat.reduceLT, e_impl_fold]
  try simp only [impl_Hash_l3, eY]
  all_goals rfl
theorem e_impl_Hash (n : Nat) {R1} {values : List Int} [H1 : EncL c_i64 R1 values] : CP T (n + 5) 256 [.imm 1 R1] = (impl_Hash values).map fun r => .i .i64 r := by
  obtain ⟨rfl⟩ := H1
  rw [CP_eq]
  simp -dsimp +contextual only [↓evA, eZ, Nat.reduceAdd, Nat.reduceMul, Nat.reduceBEq, Nat.reduceLeDiff, Nat.reduceLT, Tryz.func256, Tryz.f256, a256, e_impl_Hash_l3]
  try simp only [impl_Hash, eY]
  all_goals rfl
theorem e_impl_HandSeal (n : Nat) (before : Int) (xxThing : Int) (xxHolder : Int) (xxWho : Int) (xxAt : Int) (xxSeal : Int) : CP T (n + 6) 221 [.i .i64 before, .agg [.i .i64 xxThing, .i .i64 xxHolder, .i .i64 xxWho, .i .i64 xxAt, .i .i64 xxSeal]] = (impl_HandSeal before (⟨xxThing, xxHolder, xxWho, xxAt, xxSeal⟩ : Hand)).map fun r => .i .i64 r := by
  rw [CP_eq]
  simp -dsimp +contextual only [↓evA, eZ, Nat.reduceAdd, Nat.reduceMul, Nat.reduceBEq, Nat.reduceLeDiff, Nat.reduceLT, Tryz.func221, Tryz.f221, a221, e_impl_Hash]
  try simp only [impl_HandSeal, eY]
  all_goals rfl
theorem e_impl_lastHand_l2 (n : Nat) {R1} {l : List Hand} (thing : Int) (i : Int) [H1 : EncL cHand R1 l] : LP T (n + 1) 235 2 (frm [(0, .imm 5 R1), (1, .i .i64 thing), (5, .i .i64 i)]) [] =
    lmap (run (impl_lastHand_l2 l thing) i) (fun (zr : Int) => (XE.ret, frm [(4, .i .i64 zr)], [])) (fun (zr : Unit) => (XE.exit 0, frm [], [])) := by
  obtain ⟨rfl⟩ := H1
  rw [LP_eq]
  simp -dsimp only [↓evA, evB, lpG_eq, Tryz.func235, Tryz.f235, a235, TP, TZ, Nat.reduceAdd, Nat.reduceMul, Nat.reduceBEq, Nat.reduceLeDiff, Nat.reduceLT]
  refine run_map (fun (zs : Int) => (frm [(0, .imm 5 (l.map cHand)), (1, .i .i64 thing), (5, .i .i64 zs)], [])) (evO (fun (zr : Int) => (XE.ret, frm [(4, .i .i64 zr)], [])) (fun (zr : Unit) => (XE.exit 0, frm [], []))) ?_ i
  intro i
  simp -dsimp +contextual only [↓evA, eZ, Nat.reduceAdd, Nat.reduceMul, Nat.reduceBEq, Nat.reduceLeDiff, Nat.reduceLT]
  try simp only [impl_lastHand_l2, eY]
  all_goals rfl
theorem e_impl_lastHand (n : Nat) {R1} {l : List Hand} (thing : Int) [H1 : EncL cHand R1 l] : CP T (n + 2) 235 [.imm 5 R1, .i .i64 thing] = (impl_lastHand l thing).map fun r => .i .i64 r := by
  obtain ⟨rfl⟩ := H1
  rw [CP_eq]
  simp -dsimp +contextual only [↓evA, eZ, Nat.reduceAdd, Nat.reduceMul, Nat.reduceBEq, Nat.reduceLeDiff, Nat.reduceLT, Tryz.func235, Tryz.f235, a235, e_impl_lastHand_l2]
  try simp only [impl_lastHand, eY]
  all_goals rfl
theorem e_impl_IsChain_l5 (n : Nat) {R1} {l : List Hand} (t3 : Int) {R2} {t10 : List Hand} (t11 : Int) (t12 : Int) [H1 : EncL cHand R1 l] [H2 : EncL cHand R2 t10] : LP T (n + 7) 160 5 (frm [(0, .imm 5 R1), (3, .i .i64 t3), (10, .imm 5 R2), (11, .i .i64 t11), (12, .i .i64 t12)]) [] =
    lmap (run (impl_IsChain_l5 l t10 t11) (t3, t12)) (fun (zr : Bool) => (XE.ret, frm [(2, .b zr)], [])) (fun (zr : Unit) => (XE.exit 0, frm [], [])) := by
  rcases H1, H2 with ⟨⟨rfl⟩, ⟨rfl⟩⟩
  rw [LP_eq]
  simp -dsimp only [↓evA, evB, lpG_eq, Tryz.func160, Tryz.f160, a160, TP, TZ, Nat.reduceAdd, Nat.reduceMul, Nat.reduceBEq, Nat.reduceLeDiff, Nat.reduceLT]
  refine run_map (fun (zs : Int × Int) => (frm [(0, .imm 5 (l.map cHand)), (3, .i .i64 zs.1), (10, .imm 5 (t10.map cHand)), (11, .i .i64 t11), (12, .i .i64 zs.2)], [])) (evO (fun (zr : Bool) => (XE.ret, frm [(2, .b zr)], [])) (fun (zr : Unit) => (XE.exit 0, frm [], []))) ?_ (t3, t12)
  rintro ⟨t3, t12⟩
  simp -dsimp +contextual only [↓evA, eZ, Nat.reduceAdd, Nat.reduceMul, Nat.reduceBEq, Nat.reduceLeDiff, Nat.reduceLT, e_impl_InRange, e_impl_HandSeal, e_impl_lastHand]
  try simp only [impl_IsChain_l5, eY]
  all_goals rfl
theorem e_impl_IsChain (n : Nat) {R1} {l : List Hand} [H1 : EncL cHand R1 l] : CP T (n + 8) 160 [.imm 5 R1] = (impl_IsChain l).map fun r => .b r := by
  obtain ⟨rfl⟩ := H1
  rw [CP_eq]
  simp -dsimp +contextual only [↓evA, eZ, Nat.reduceAdd, Nat.reduceMul, Nat.reduceBEq, Nat.reduceLeDiff, Nat.reduceLT, Tryz.func160, Tryz.f160, a160, e_impl_IsChain_l5]
  try simp only [impl_IsChain, eY]
  all_goals rfl
theorem e_impl_AddHand (n : Nat) {R1} {l : List Hand} (xxThing : Int) (xxHolder : Int) (xxWho : Int) (xxAt : Int) (xxSeal : Int) [H1 : EncL cHand R1 l] : CP T (n + 9) 138 [.imm 5 R1, .agg [.i .i64 xxThing, .i .i64 xxHolder, .i .i64 xxWho, .i .i64 xxAt, .i .i64 xxSeal]] = (impl_AddHand l (⟨xxThing, xxHolder, xxWho, xxAt, xxSeal⟩ : Hand)).map fun r => .tup [.own 5 (r.1.map cHand), .b r.2] := by
  obtain ⟨rfl⟩ := H1
  rw [CP_eq]
  simp -dsimp +contextual only [↓evA, eZ, Nat.reduceAdd, Nat.reduceMul, Nat.reduceBEq, Nat.reduceLeDiff, Nat.reduceLT, Tryz.func138, Tryz.f138, a138, e_impl_HandSeal, e_slices_Clone_Hand, e_impl_IsChain]
  try simp only [impl_AddHand, eY]
  try simp only [List.contains_nil, Bool.not_false, Bool.and_true, e_need_t, List.length_append, List.length_cons, List.length_nil, Nat.zero_add, need_comm, oeq_self]
  all_goals first | rfl | (simp +contextual only [evN] <;> rfl)
theorem e_slices_Index_bool_l2 (n : Nat) {R1} {s : List Bool} (v : Bool) (t7 : Int) (t8 : Int) [H1 : EncL c_b R1 s] : LP T (n + 1) 239 2 (frm [(0, .imm 1 R1), (1, .b v), (7, .i .i64 t7), (8, .i .i64 t8)]) [] =
    lmap (run (slices_Index_bool_l2 s v t7) t8) (fun (zr : Int) => (XE.ret, frm [(4, .i .i64 zr)], [])) (fun (zr : Unit) => (XE.exit 0, frm [], [])) := by
  obtain ⟨rfl⟩ := H1
  rw [LP_eq]
  simp -dsimp only [↓evA, evB, lpG_eq, Tryz.func239, Tryz.f239, a239, TP, TZ, Nat.reduceAdd, Nat.reduceMul, Nat.reduceBEq, Nat.reduceLeDiff, Nat.reduceLT]
  refine run_map (fun (zs : Int) => (frm [(0, .imm 1 (s.map c_b)), (1, .b v), (7, .i .i64 t7), (8, .i .i64 zs)], [])) (evO (fun (zr : Int) => (XE.ret, frm [(4, .i .i64 zr)], [])) (fun (zr : Unit) => (XE.exit 0, frm [], []))) ?_ t8
  intro t8
  simp -dsimp +contextual only [↓evA, eZ, Nat.reduceAdd, Nat.reduceMul, Nat.reduceBEq, Nat.reduceLeDiff, Nat.reduceLT]
  try simp only [slices_Index_bool_l2, eY]
  all_goals rfl
theorem e_slices_Index_bool (n : Nat) {R1} {s : List Bool} (v : Bool) [H1 : EncL c_b R1 s] : CP T (n + 2) 239 [.imm 1 R1, .b v] = (slices_Index_bool s v).map fun r => .i .i64 r := by
  obtain ⟨rfl⟩ := H1
  rw [CP_eq]
  simp -dsimp +contextual only [↓evA, eZ, Nat.reduceAdd, Nat.reduceMul, Nat.reduceBEq, Nat.reduceLeDiff, Nat.reduceLT, Tryz.func239, Tryz.f239, a239, e_slices_Index_bool_l2]
  try simp only [slices_Index_bool, eY]
  all_goals rfl
theorem e_slices_Contains_bool (n : Nat) {R1} {s : List Bool} (v : Bool) [H1 : EncL c_b R1 s] : CP T (n + 3) 183 [.imm 1 R1, .b v] = (slices_Contains_bool s v).map fun r => .b r := by
  obtain ⟨rfl⟩ := H1
  rw [CP_eq]
  simp -dsimp +contextual only [↓evA, eZ, Nat.reduceAdd, Nat.reduceMul, Nat.reduceBEq, Nat.reduceLeDiff, Nat.reduceLT, Tryz.func183, Tryz.f183, a183, e_slices_Index_bool]
  try simp only [slices_Contains_bool, eY]
  all_goals rfl
theorem e_impl_AreClaims_l9 (n : Nat) {R1} {l : List Claim} (t4xId : Int) (t4xWho : Int) (t4xThing : Int) (t4xAt : Int) (t4xState : Int) {R2} {t10 : List Claim} (t11 : Int) (t12 : Int) {R3} {t62 : List Claim} (t63 : Int) (t64 : Int) [H1 : EncL cClaim R1 l] [H2 : EncL cClaim R2 t10] [H3 : EncL cClaim R3 t62] : LP T (n + 1) 159 9 (frm [(0, .imm 5 R1), (4, .ptr 0 0 0), (10, .imm 5 R2), (11, .i .i64 t11), (12, .i .i64 t12), (62, .imm 5 R3), (63, .i .i64 t63), (64, .i .i64 t64)]) [some (Ent.box [.i .i64 t4xId, .i .i64 t4xWho, .i .i64 t4xThing, .i .i64 t4xAt, .i .i64 t4xState])] =
    lmap (run (impl_AreClaims_l9 l (⟨t4xId, t4xWho, t4xThing, t4xAt, t4xState⟩ : Claim) t10 t11 t12 t62 t63) t64) (fun (zr : Bool) => (XE.ret, frm [(2, .b zr)], [])) (fun (zr : Unit) => (XE.exit 2, frm [(0, .imm 5 (l.map cClaim)), (10, .imm 5 (t10.map cClaim)), (11, .i .i64 t11), (12, .i .i64 t12)], [])) := by
  rcases H1, H2, H3 with ⟨⟨rfl⟩, ⟨rfl⟩, ⟨rfl⟩⟩
  rw [LP_eq]
  simp -dsimp only [↓evA, evB, lpG_eq, Tryz.func159, Tryz.f159, a159, TP, TZ, Nat.reduceAdd, Nat.reduceMul, Nat.reduceBEq, Nat.reduceLeDiff, Nat.reduceLT]
  refine run_map (fun (zs : Int) => (frm [(0, .imm 5 (l.map cClaim)), (4, .ptr 0 0 0), (10, .imm 5 (t10.map cClaim)), (11, .i .i64 t11), (12, .i .i64 t12), (62, .imm 5 (t62.map cClaim)), (63, .i .i64 t63), (64, .i .i64 zs)], [some (Ent.box [.i .i64 t4xId, .i .i64 t4xWho, .i .i64 t4xThing, .i .i64 t4xAt, .i .i64 t4xState])])) (evO (fun (zr : Bool) => (XE.ret, frm [(2, .b zr)], [])) (fun (zr : Unit) => (XE.exit 2, frm [(0, .imm 5 (l.map cClaim)), (10, .imm 5 (t10.map cClaim)), (11, .i .i64 t11), (12, .i .i64 t12)], []))) ?_ t64
  intro t64
  simp -dsimp +contextual only [↓evA, eZ, Nat.reduceAdd, Nat.reduceMul, Nat.reduceBEq, Nat.reduceLeDiff, Nat.reduceLT]
  try simp only [impl_AreClaims_l9, eY]
  all_goals rfl
theorem e_impl_AreClaims_l4 (n : Nat) {R1} {l : List Claim} {R2} {t10 : List Claim} (t11 : Int) (t12 : Int) [H1 : EncL cClaim R1 l] [H2 : EncL cClaim R2 t10] : LP T (n + 2) 159 4 (frm [(0, .imm 5 R1), (10, .imm 5 R2), (11, .i .i64 t11), (12, .i .i64 t12)]) [] =
    lmap (run (impl_AreClaims_l4 l t10 t11) t12) (fun (zr : Bool) => (XE.ret, frm [(2, .b zr)], [])) (fun (zr : Unit) => (XE.exit 0, frm [], [])) := by
  rcases H1, H2 with ⟨⟨rfl⟩, ⟨rfl⟩⟩
  rw [LP_eq]
  simp -dsimp only [↓evA, evB, lpG_eq, Tryz.func159, Tryz.f159, a159, TP, TZ, Nat.reduceAdd, Nat.reduceMul, Nat.reduceBEq, Nat.reduceLeDiff, Nat.reduceLT]
  refine run_map (fun (zs : Int) => (frm [(0, .imm 5 (l.map cClaim)), (10, .imm 5 (t10.map cClaim)), (11, .i .i64 t11), (12, .i .i64 zs)], [])) (evO (fun (zr : Bool) => (XE.ret, frm [(2, .b zr)], [])) (fun (zr : Unit) => (XE.exit 0, frm [], []))) ?_ t12
  intro t12
  simp -dsimp +contextual only [↓evA, eZ, Nat.reduceAdd, Nat.reduceMul, Nat.reduceBEq, Nat.reduceLeDiff, Nat.reduceLT, e_impl_InRange, e_impl_AreClaims_l9]
  try simp only [impl_AreClaims_l4, eY]
  all_goals rfl
theorem e_impl_AreClaims (n : Nat) {R1} {l : List Claim} [H1 : EncL cClaim R1 l] : CP T (n + 3) 159 [.imm 5 R1] = (impl_AreClaims l).map fun r => .b r := by
  obtain ⟨rfl⟩ := H1
  rw [CP_eq]
  simp -dsimp +contextual only [↓evA, eZ, Nat.reduceAdd, Nat.reduceMul, Nat.reduceBEq, Nat.reduceLeDiff, Nat.reduceLT, Tryz.func159, Tryz.f159, a159, e_impl_AreClaims_l4]
  try simp only [impl_AreClaims, eY]
  all_goals rfl
theorem e_impl_AreEntries_l4 (n : Nat) {R1} {l : List Entry} {R2} {t8 : List Entry} (t9 : Int) (t10 : Int) [H1 : EncL cEntry R1 l] [H2 : EncL cEntry R2 t8] : LP T (n + 2) 161 4 (frm [(0, .imm 4 R1), (8, .imm 4 R2), (9, .i .i64 t9), (10, .i .i64 t10)]) [] =
    lmap (run (impl_AreEntries_l4 l t8 t9) t10) (fun (zr : Bool) => (XE.ret, frm [(2, .b zr)], [])) (fun (zr : Unit) => (XE.exit 0, frm [], [])) := by
  rcases H1, H2 with ⟨⟨rfl⟩, ⟨rfl⟩⟩
  rw [LP_eq]
  simp -dsimp only [↓evA, evB, lpG_eq, Tryz.func161, Tryz.f161, a161, TP, TZ, Nat.reduceAdd, Nat.reduceMul, Nat.reduceBEq, Nat.reduceLeDiff, Nat.reduceLT]
  refine run_map (fun (zs : Int) => (frm [(0, .imm 4 (l.map cEntry)), (8, .imm 4 (t8.map cEntry)), (9, .i .i64 t9), (10, .i .i64 zs)], [])) (evO (fun (zr : Bool) => (XE.ret, frm [(2, .b zr)], [])) (fun (zr : Unit) => (XE.exit 0, frm [], []))) ?_ t10
  intro t10
  simp -dsimp +contextual only [↓evA, eZ, Nat.reduceAdd, Nat.reduceMul, Nat.reduceBEq, Nat.reduceLeDiff, Nat.reduceLT, e_impl_InRange]
  try simp only [impl_AreEntries_l4, eY]
  all_goals rfl
theorem e_impl_AreEntries (n : Nat) {R1} {l : List Entry} [H1 : EncL cEntry R1 l] : CP T (n + 3) 161 [.imm 4 R1] = (impl_AreEntries l).map fun r => .b r := by
  obtain ⟨rfl⟩ := H1
  rw [CP_eq]
  simp -dsimp +contextual only [↓evA, eZ, Nat.reduceAdd, Nat.reduceMul, Nat.reduceBEq, Nat.reduceLeDiff, Nat.reduceLT, Tryz.func161, Tryz.f161, a161, e_impl_AreEntries_l4]
  try simp only [impl_AreEntries, eY]
  all_goals rfl
theorem e_impl_InHouse_l5 (n : Nat) {R1} {l : List Hand} (house : Int) {R2} {out : List Int} {R3} {t13 : List Hand} (t14 : Int) (t15 : Int) [H1 : EncL cHand R1 l] [H2 : EncL c_i64 R2 out] [H3 : EncL cHand R3 t13] : LP T (n + 3) 236 5 (frm [(0, .imm 5 R1), (1, .i .i64 house), (5, .sl 0), (13, .imm 5 R3), (14, .i .i64 t14), (15, .i .i64 t15)]) [some (Ent.lst 1 R2)] =
    (run (impl_InHouse_l5 l house t13 t14) (out, t15)).map (fun (zr : (List Int)) => (XE.exit 0, frm [(5, .sl 0)], [some (Ent.lst 1 (zr.map c_i64))])) := by
  rcases H1, H2, H3 with ⟨⟨rfl⟩, ⟨rfl⟩, ⟨rfl⟩⟩
  rw [LP_eq]
  simp -dsimp only [↓evA, evB, lpG_eq, Tryz.func236, Tryz.f236, a236, TP, TZ, Nat.reduceAdd, Nat.reduceMul, Nat.reduceBEq, Nat.reduceLeDiff, Nat.reduceLT]
  refine run_map (fun (zs : (List Int) × Int) => (frm [(0, .imm 5 (l.map cHand)), (1, .i .i64 house), (5, .sl 0), (13, .imm 5 (t13.map cHand)), (14, .i .i64 t14), (15, .i .i64 zs.2)], [some (Ent.lst 1 (zs.1.map c_i64))])) (fun (zr : (List Int)) => (XE.exit 0, frm [(5, .sl 0)], [some (Ent.lst 1 (zr.map c_i64))])) ?_ (out, t15)
  rintro ⟨out, t15⟩
  simp -dsimp +contextual only [↓evA, eZ, Nat.reduceAdd, Nat.reduceMul, Nat.reduceBEq, Nat.reduceLeDiff, Nat.reduceLT, srt, e_impl_lastHand]
  try simp only [impl_InHouse_l5, eY]
  all_goals rfl
theorem e_impl_InHouse (n : Nat) {R1} {l : List Hand} (house : Int) [H1 : EncL cHand R1 l] : CP T (n + 9) 236 [.imm 5 R1, .i .i64 house] = (impl_InHouse l house).map fun r => .own 1 (r.map c_i64) := by
  obtain ⟨rfl⟩ := H1
  rw [CP_eq]
  simp -dsimp +contextual only [↓evA, eZ, Nat.reduceAdd, Nat.reduceMul, Nat.reduceBEq, Nat.reduceLeDiff, Nat.reduceLT, Tryz.func236, Tryz.f236, a236, srt, e_impl_IsChain, e_impl_InHouse_l5]
  try simp only [impl_InHouse, eY]
  all_goals first | rfl | (simp +contextual only [evN] <;> rfl)
theorem e_slices_Index_int_l2 (n : Nat) {R1} {s : List Int} (v : Int) (t7 : Int) (t8 : Int) [H1 : EncL c_i64 R1 s] : LP T (n + 1) 266 2 (frm [(0, .imm 1 R1), (1, .i .i64 v), (7, .i .i64 t7), (8, .i .i64 t8)]) [] =
    lmap (run (slices_Index_int_l2 s v t7) t8) (fun (zr : Int) => (XE.ret, frm [(4, .i .i64 zr)], [])) (fun (zr : Unit) => (XE.exit 0, frm [], [])) := by
  obtain ⟨rfl⟩ := H1
  rw [LP_eq]
  simp -dsimp only [↓evA, evB, lpG_eq, Tryz.func266, Tryz.f266, a266, TP, TZ, Nat.reduceAdd, Nat.reduceMul, Nat.reduceBEq, Nat.reduceLeDiff, Nat.reduceLT]
  refine run_map (fun (zs : Int) => (frm [(0, .imm 1 (s.map c_i64)), (1, .i .i64 v), (7, .i .i64 t7), (8, .i .i64 zs)], [])) (evO (fun (zr : Int) => (XE.ret, frm [(4, .i .i64 zr)], [])) (fun (zr : Unit) => (XE.exit 0, frm [], []))) ?_ t8
  intro t8
  simp -dsimp +contextual only [↓evA, eZ, Nat.reduceAdd, Nat.reduceMul, Nat.reduceBEq, Nat.reduceLeDiff, Nat.reduceLT]
  try simp only [slices_Index_int_l2, eY]
  all_goals rfl
theorem e_slices_Index_int (n : Nat) {R1} {s : List Int} (v : Int) [H1 : EncL c_i64 R1 s] : CP T (n + 2) 266 [.imm 1 R1, .i .i64 v] = (slices_Index_int s v).map fun r => .i .i64 r := by
  obtain ⟨rfl⟩ := H1
  rw [CP_eq]
  simp -dsimp +contextual only [↓evA, eZ, Nat.reduceAdd, Nat.reduceMul, Nat.reduceBEq, Nat.reduceLeDiff, Nat.reduceLT, Tryz.func266, Tryz.f266, a266, e_slices_Index_int_l2]
  try simp only [slices_Index_int, eY]
  all_goals rfl
theorem e_slices_Contains_int (n : Nat) {R1} {s : List Int} (v : Int) [H1 : EncL c_i64 R1 s] : CP T (n + 3) 237 [.imm 1 R1, .i .i64 v] = (slices_Contains_int s v).map fun r => .b r := by
  obtain ⟨rfl⟩ := H1
  rw [CP_eq]
  simp -dsimp +contextual only [↓evA, eZ, Nat.reduceAdd, Nat.reduceMul, Nat.reduceBEq, Nat.reduceLeDiff, Nat.reduceLT, Tryz.func237, Tryz.f237, a237, e_slices_Index_int]
  try simp only [slices_Contains_int, eY]
  all_goals rfl
theorem e_impl_areKept_l5 (n : Nat) (t1xNo : Int) {R1} {t1xFinds : List Find} {R2} {t1xSecrets : List Secret} {R3} {t1xSlots : List Slot} {R4} {t1xClaims : List Claim} {R5} {t1xTrials : List Trial} {R6} {t1xChain : List Hand} {R7} {t1xBook : List Entry} (t1xNow : Int) {R8} {t3 : List Int} {R9} {t23 : List Find} (t24 : Int) (t25 : Int) [H1 : EncL cFind R1 t1xFinds] [H2 : EncL cSecret R2 t1xSecrets] [H3 : EncL cSlot R3 t1xSlots] [H4 : EncL cClaim R4 t1xClaims] [H5 : EncL cTrial R5 t1xTrials] [H6 : EncL cHand R6 t1xChain] [H7 : EncL cEntry R7 t1xBook] [H8 : EncL c_i64 R8 t3] [H9 : EncL cFind R9 t23] : LP T (n + 5) 162 5 (frm [(1, .ptr 0 0 0), (3, .sl 1), (23, .imm 8 R9), (24, .i .i64 t24), (25, .i .i64 t25)]) [some (Ent.box [.i .i64 t1xNo, .imm 8 R1, .imm 3 R2, .imm 3 R3, .imm 5 R4, .imm 4 R5, .imm 5 R6, .imm 4 R7, .i .i64 t1xNow]), some (Ent.lst 1 R8)] =
    lmap (run (impl_areKept_l5 (⟨t1xNo, t1xFinds, t1xSecrets, t1xSlots, t1xClaims, t1xTrials, t1xChain, t1xBook, t1xNow⟩ : House) t3 t23 t24) t25) (fun (zr : Bool) => (XE.ret, frm [(2, .b zr)], [])) (fun (zr : Unit) => (XE.exit 0, frm [(1, .ptr 0 0 0), (3, .sl 1)], [some (Ent.box [.i .i64 t1xNo, .imm 8 (t1xFinds.map cFind), .imm 3 (t1xSecrets.map cSecret), .imm 3 (t1xSlots.map cSlot), .imm 5 (t1xClaims.map cClaim), .imm 4 (t1xTrials.map cTrial), .imm 5 (t1xChain.map cHand), .imm 4 (t1xBook.map cEntry), .i .i64 t1xNow]), some (Ent.lst 1 (t3.map c_i64))])) := by
  rcases H1, H2, H3, H4, H5, H6, H7, H8, H9 with ⟨⟨rfl⟩, ⟨rfl⟩, ⟨rfl⟩, ⟨rfl⟩, ⟨rfl⟩, ⟨rfl⟩, ⟨rfl⟩, ⟨rfl⟩, ⟨rfl⟩⟩
  rw [LP_eq]
  simp -dsimp only [↓evA, evB, lpG_eq, Tryz.func162, Tryz.f162, a162, TP, TZ, Nat.reduceAdd, Nat.reduceMul, Nat.reduceBEq, Nat.reduceLeDiff, Nat.reduceLT]
  refine run_map (fun (zs : Int) => (frm [(1, .ptr 0 0 0), (3, .sl 1), (23, .imm 8 (t23.map cFind)), (24, .i .i64 t24), (25, .i .i64 zs)], [some (Ent.box [.i .i64 t1xNo, .imm 8 (t1xFinds.map cFind), .imm 3 (t1xSecrets.map cSecret), .imm 3 (t1xSlots.map cSlot), .imm 5 (t1xClaims.map cClaim), .imm 4 (t1xTrials.map cTrial), .imm 5 (t1xChain.map cHand), .imm 4 (t1xBook.map cEntry), .i .i64 t1xNow]), some (Ent.lst 1 (t3.map c_i64))])) (evO (fun (zr : Bool) => (XE.ret, frm [(2, .b zr)], [])) (fun (zr : Unit) => (XE.exit 0, frm [(1, .ptr 0 0 0), (3, .sl 1)], [some (Ent.box [.i .i64 t1xNo, .imm 8 (t1xFinds.map cFind), .imm 3 (t1xSecrets.map cSecret), .imm 3 (t1xSlots.map cSlot), .imm 5 (t1xClaims.map cClaim), .imm 4 (t1xTrials.map cTrial), .imm 5 (t1xChain.map cHand), .imm 4 (t1xBook.map cEntry), .i .i64 t1xNow]), some (Ent.lst 1 (t3.map c_i64))]))) ?_ t25
  intro t25
  simp -dsimp +contextual (maxSteps := 100000000) only [↓evA, eZ, Nat.reduceAdd, Nat.reduceMul, Nat.reduceBEq, Nat.reduceLeDiff, Nat.reduceLT, e_impl_slotWith, e_slices_Contains_int]
  try simp only [impl_areKept_l5, eY]
  all_goals rfl
theorem e_impl_areKept_l11 (n : Nat) (t1xNo : Int) {R1} {t1xFinds : List Find} {R2} {t1xSecrets : List Secret} {R3} {t1xSlots : List Slot} {R4} {t1xClaims : List Claim} {R5} {t1xTrials : List Trial} {R6} {t1xChain : List Hand} {R7} {t1xBook : List Entry} (t1xNow : Int) {R8} {t3 : List Int} {R9} {t57 : List Slot} (t58 : Int) (t59 : Int) [H1 : EncL cFind R1 t1xFinds] [H2 : EncL cSecret R2 t1xSecrets] [H3 : EncL cSlot R3 t1xSlots] [H4 : EncL cClaim R4 t1xClaims] [H5 : EncL cTrial R5 t1xTrials] [H6 : EncL cHand R6 t1xChain] [H7 : EncL cEntry R7 t1xBook] [H8 : EncL c_i64 R8 t3] [H9 : EncL cSlot R9 t57] : LP T (n + 5) 162 11 (frm [(1, .ptr 0 0 0), (3, .sl 1), (57, .imm 3 R9), (58, .i .i64 t58), (59, .i .i64 t59)]) [some (Ent.box [.i .i64 t1xNo, .imm 8 R1, .imm 3 R2, .imm 3 R3, .imm 5 R4, .imm 4 R5, .imm 5 R6, .imm 4 R7, .i .i64 t1xNow]), some (Ent.lst 1 R8)] =
    lmap (run (impl_areKept_l11 (⟨t1xNo, t1xFinds, t1xSecrets, t1xSlots, t1xClaims, t1xTrials, t1xChain, t1xBook, t1xNow⟩ : House) t3 t57 t58) t59) (fun (zr : Bool) => (XE.ret, frm [(2, .b zr)], [])) (fun (zr : Unit) => (XE.exit 2, frm [(1, .ptr 0 0 0), (3, .sl 1)], [some (Ent.box [.i .i64 t1xNo, .imm 8 (t1xFinds.map cFind), .imm 3 (t1xSecrets.map cSecret), .imm 3 (t1xSlots.map cSlot), .imm 5 (t1xClaims.map cClaim), .imm 4 (t1xTrials.map cTrial), .imm 5 (t1xChain.map cHand), .imm 4 (t1xBook.map cEntry), .i .i64 t1xNow]), some (Ent.lst 1 (t3.map c_i64))])) := by
  rcases H1, H2, H3, H4, H5, H6, H7, H8, H9 with ⟨⟨rfl⟩, ⟨rfl⟩, ⟨rfl⟩, ⟨rfl⟩, ⟨rfl⟩, ⟨rfl⟩, ⟨rfl⟩, ⟨rfl⟩, ⟨rfl⟩⟩
  rw [LP_eq]
  simp -dsimp only [↓evA, evB, lpG_eq, Tryz.func162, Tryz.f162, a162, TP, TZ, Nat.reduceAdd, Nat.reduceMul, Nat.reduceBEq, Nat.reduceLeDiff, Nat.reduceLT]
  refine run_map (fun (zs : Int) => (frm [(1, .ptr 0 0 0), (3, .sl 1), (57, .imm 3 (t57.map cSlot)), (58, .i .i64 t58), (59, .i .i64 zs)], [some (Ent.box [.i .i64 t1xNo, .imm 8 (t1xFinds.map cFind), .imm 3 (t1xSecrets.map cSecret), .imm 3 (t1xSlots.map cSlot), .imm 5 (t1xClaims.map cClaim), .imm 4 (t1xTrials.map cTrial), .imm 5 (t1xChain.map cHand), .imm 4 (t1xBook.map cEntry), .i .i64 t1xNow]), some (Ent.lst 1 (t3.map c_i64))])) (evO (fun (zr : Bool) => (XE.ret, frm [(2, .b zr)], [])) (fun (zr : Unit) => (XE.exit 2, frm [(1, .ptr 0 0 0), (3, .sl 1)], [some (Ent.box [.i .i64 t1xNo, .imm 8 (t1xFinds.map cFind), .imm 3 (t1xSecrets.map cSecret), .imm 3 (t1xSlots.map cSlot), .imm 5 (t1xClaims.map cClaim), .imm 4 (t1xTrials.map cTrial), .imm 5 (t1xChain.map cHand), .imm 4 (t1xBook.map cEntry), .i .i64 t1xNow]), some (Ent.lst 1 (t3.map c_i64))]))) ?_ t59
  intro t59
  simp -dsimp +contextual (maxSteps := 100000000) only [↓evA, eZ, Nat.reduceAdd, Nat.reduceMul, Nat.reduceBEq, Nat.reduceLeDiff, Nat.reduceLT, e_impl_FindThing]
  try simp only [impl_areKept_l11, eY]
  all_goals rfl
theorem e_impl_areKept_l17 (n : Nat) (t1xNo : Int) {R1} {t1xFinds : List Find} {R2} {t1xSecrets : List Secret} {R3} {t1xSlots : List Slot} {R4} {t1xClaims : List Claim} {R5} {t1xTrials : List Trial} {R6} {t1xChain : List Hand} {R7} {t1xBook : List Entry} (t1xNow : Int) {R8} {t75 : List Int} (t76 : Int) (t77 : Int) [H1 : EncL cFind R1 t1xFinds] [H2 : EncL cSecret R2 t1xSecrets] [H3 : EncL cSlot R3 t1xSlots] [H4 : EncL cClaim R4 t1xClaims] [H5 : EncL cTrial R5 t1xTrials] [H6 : EncL cHand R6 t1xChain] [H7 : EncL cEntry R7 t1xBook] [H8 : EncL c_i64 R8 t75] : LP T (n + 5) 162 17 (frm [(1, .ptr 0 0 0), (75, .sl 1), (76, .i .i64 t76), (77, .i .i64 t77)]) [some (Ent.box [.i .i64 t1xNo, .imm 8 R1, .imm 3 R2, .imm 3 R3, .imm 5 R4, .imm 4 R5, .imm 5 R6, .imm 4 R7, .i .i64 t1xNow]), some (Ent.lst 1 R8)] =
    lmap (run (impl_areKept_l17 (⟨t1xNo, t1xFinds, t1xSecrets, t1xSlots, t1xClaims, t1xTrials, t1xChain, t1xBook, t1xNow⟩ : House) t75 t76) t77) (fun (zr : Bool) => (XE.ret, frm [(2, .b zr)], [])) (fun (zr : Unit) => (XE.exit 4, frm [], [])) := by
  rcases H1, H2, H3, H4, H5, H6, H7, H8 with ⟨⟨rfl⟩, ⟨rfl⟩, ⟨rfl⟩, ⟨rfl⟩, ⟨rfl⟩, ⟨rfl⟩, ⟨rfl⟩, ⟨rfl⟩⟩
  rw [LP_eq]
  simp -dsimp only [↓evA, evB, lpG_eq, Tryz.func162, Tryz.f162, a162, TP, TZ, Nat.reduceAdd, Nat.reduceMul, Nat.reduceBEq, Nat.reduceLeDiff, Nat.reduceLT]
  refine run_map (fun (zs : Int) => (frm [(1, .ptr 0 0 0), (75, .sl 1), (76, .i .i64 t76), (77, .i .i64 zs)], [some (Ent.box [.i .i64 t1xNo, .imm 8 (t1xFinds.map cFind), .imm 3 (t1xSecrets.map cSecret), .imm 3 (t1xSlots.map cSlot), .imm 5 (t1xClaims.map cClaim), .imm 4 (t1xTrials.map cTrial), .imm 5 (t1xChain.map cHand), .imm 4 (t1xBook.map cEntry), .i .i64 t1xNow]), some (Ent.lst 1 (t75.map c_i64))])) (evO (fun (zr : Bool) => (XE.ret, frm [(2, .b zr)], [])) (fun (zr : Unit) => (XE.exit 4, frm [], []))) ?_ t77
  intro t77
  simp -dsimp +contextual (maxSteps := 100000000) only [↓evA, eZ, Nat.reduceAdd, Nat.reduceMul, Nat.reduceBEq, Nat.reduceLeDiff, Nat.reduceLT, e_impl_FindThing]
  try simp only [impl_areKept_l17, eY]
  all_goals rfl
theorem e_impl_areKept (n : Nat) (vhxNo : Int) {R1} {vhxFinds : List Find} {R2} {vhxSecrets : List Secret} {R3} {vhxSlots : List Slot} {R4} {vhxClaims : List Claim} {R5} {vhxTrials : List Trial} {R6} {vhxChain : List Hand} {R7} {vhxBook : List Entry} (vhxNow : Int) [H1 : EncL cFind R1 vhxFinds] [H2 : EncL cSecret R2 vhxSecrets] [H3 : EncL cSlot R3 vhxSlots] [H4 : EncL cClaim R4 vhxClaims] [H5 : EncL cTrial R5 vhxTrials] [H6 : EncL cHand R6 vhxChain] [H7 : EncL cEntry R7 vhxBook] : CP T (n + 10) 162 [.agg [.i .i64 vhxNo, .imm 8 R1, .imm 3 R2, .imm 3 R3, .imm 5 R4, .imm 4 R5, .imm 5 R6, .imm 4 R7, .i .i64 vhxNow]] = (impl_areKept (⟨vhxNo, vhxFinds, vhxSecrets, vhxSlots, vhxClaims, vhxTrials, vhxChain, vhxBook, vhxNow⟩ : House)).map fun r => .b r := by
  rcases H1, H2, H3, H4, H5, H6, H7 with ⟨⟨rfl⟩, ⟨rfl⟩, ⟨rfl⟩, ⟨rfl⟩, ⟨rfl⟩, ⟨rfl⟩, ⟨rfl⟩⟩
  rw [CP_eq]
  simp -dsimp +contextual (maxSteps := 100000000) only [↓evA, eZ, Nat.reduceAdd, Nat.reduceMul, Nat.reduceBEq, Nat.reduceLeDiff, Nat.reduceLT, Tryz.func162, Tryz.f162, a162, e_impl_InHouse, e_impl_areKept_l5, e_impl_areKept_l11, e_impl_areKept_l17]
  try simp only [impl_areKept, eY]
  all_goals rfl
theorem e_impl_IsTrial (n : Nat) (xxClaim : Int) (xxAsked : Int) (xxRight : Int) (xxWrong : Int) : CP T (n + 2) 196 [.agg [.i .i64 xxClaim, .i .i64 xxAsked, .i .i64 xxRight, .i .i64 xxWrong]] = (impl_IsTrial (⟨xxClaim, xxAsked, xxRight, xxWrong⟩ : Trial)).map fun r => .b r := by
  rw [CP_eq]
  simp -dsimp +contextual only [↓evA, eZ, Nat.reduceAdd, Nat.reduceMul, Nat.reduceBEq, Nat.reduceLeDiff, Nat.reduceLT, Tryz.func196, Tryz.f196, a196, e_impl_InRange]
  try simp only [impl_IsTrial, eY]
  all_goals rfl
theorem e_impl_MarksOf (n : Nat) {R1} {l : List Secret} (thing : Int) [H1 : EncL cSecret R1 l] : CP T (n + 5) 107 [.imm 3 R1, .i .i64 thing] = (impl_MarksOf l thing).map fun r => .own 2 (r.map cMark) := by
  obtain ⟨rfl⟩ := H1
  rw [CP_eq]
  simp -dsimp +contextual only [↓evA, eZ, Nat.reduceAdd, Nat.reduceMul, Nat.reduceBEq, Nat.reduceLeDiff, Nat.reduceLT, Tryz.func107, Tryz.f107, a107, e_impl_secretOf, e_slices_Clone_Mark]
  try simp only [impl_MarksOf, eY]
  all_goals first | rfl | (simp +contextual only [evN] <;> rfl)
theorem e_impl_NeedFor (n : Nat) {R1} {l : List Mark} [H1 : EncL cMark R1 l] : CP T (n + 1) 198 [.imm 2 R1] = (impl_NeedFor l).map fun r => .i .i64 r := by
  obtain ⟨rfl⟩ := H1
  rw [CP_eq]
  simp -dsimp +contextual only [↓evA, eZ, Nat.reduceAdd, Nat.reduceMul, Nat.reduceBEq, Nat.reduceLeDiff, Nat.reduceLT, Tryz.func198, Tryz.f198, a198]
  try simp only [impl_NeedFor, eY]
  all_goals rfl
theorem e_impl_TrialState (n : Nat) {R1} {l : List Mark} (xxClaim : Int) (xxAsked : Int) (xxRight : Int) (xxWrong : Int) [H1 : EncL cMark R1 l] : CP T (n + 4) 109 [.imm 2 R1, .agg [.i .i64 xxClaim, .i .i64 xxAsked, .i .i64 xxRight, .i .i64 xxWrong]] = (impl_TrialState l (⟨xxClaim, xxAsked, xxRight, xxWrong⟩ : Trial)).map fun r => .i .i64 r := by
  obtain ⟨rfl⟩ := H1
  rw [CP_eq]
  simp -dsimp +contextual only [↓evA, eZ, Nat.reduceAdd, Nat.reduceMul, Nat.reduceBEq, Nat.reduceLeDiff, Nat.reduceLT, Tryz.func109, Tryz.f109, a109, e_impl_IsTrial, e_impl_AreMarks, e_impl_NeedFor]
  try simp only [impl_TrialState, eY]
  all_goals rfl
theorem e_impl_wanted (n : Nat) (state : Int) : CP T (n + 1) 238 [.i .i64 state] = (impl_wanted state).map fun r => .i .i64 r := by
  rw [CP_eq]
  simp -dsimp +contextual only [↓evA, eZ, Nat.reduceAdd, Nat.reduceMul, Nat.reduceBEq, Nat.reduceLeDiff, Nat.reduceLT, Tryz.func238, Tryz.f238, a238]
  try simp only [impl_wanted, eY]
  all_goals rfl
theorem e_impl_areTrials_l4 (n : Nat) (vhxNo : Int) {R1} {vhxFinds : List Find} {R2} {vhxSecrets : List Secret} {R3} {vhxSlots : List Slot} {R4} {vhxClaims : List Claim} {R5} {vhxTrials : List Trial} {R6} {vhxChain : List Hand} {R7} {vhxBook : List Entry} (vhxNow : Int) {R8} {t14 : List Claim} (t15 : Int) (t16 : Int) [H1 : EncL cFind R1 vhxFinds] [H2 : EncL cSecret R2 vhxSecrets] [H3 : EncL cSlot R3 vhxSlots] [H4 : EncL cClaim R4 vhxClaims] [H5 : EncL cTrial R5 vhxTrials] [H6 : EncL cHand R6 vhxChain] [H7 : EncL cEntry R7 vhxBook] [H8 : EncL cClaim R8 t14] : LP T (n + 6) 163 4 (frm [(1, .ptr 0 0 0), (14, .imm 5 R8), (15, .i .i64 t15), (16, .i .i64 t16)]) [some (Ent.box [.i .i64 vhxNo, .imm 8 R1, .imm 3 R2, .imm 3 R3, .imm 5 R4, .imm 4 R5, .imm 5 R6, .imm 4 R7, .i .i64 vhxNow])] =
    lmap (run (impl_areTrials_l4 (⟨vhxNo, vhxFinds, vhxSecrets, vhxSlots, vhxClaims, vhxTrials, vhxChain, vhxBook, vhxNow⟩ : House) t14 t15) t16) (fun (zr : Bool) => (XE.ret, frm [(2, .b zr)], [])) (fun (zr : Unit) => (XE.exit 0, frm [], [])) := by
  rcases H1, H2, H3, H4, H5, H6, H7, H8 with ⟨⟨rfl⟩, ⟨rfl⟩, ⟨rfl⟩, ⟨rfl⟩, ⟨rfl⟩, ⟨rfl⟩, ⟨rfl⟩, ⟨rfl⟩⟩
  rw [LP_eq]
  simp -dsimp only [↓evA, evB, lpG_eq, Tryz.func163, Tryz.f163, a163, TP, TZ, Nat.reduceAdd, Nat.reduceMul, Nat.reduceBEq, Nat.reduceLeDiff, Nat.reduceLT]
  refine run_map (fun (zs : Int) => (frm [(1, .ptr 0 0 0), (14, .imm 5 (t14.map cClaim)), (15, .i .i64 t15), (16, .i .i64 zs)], [some (Ent.box [.i .i64 vhxNo, .imm 8 (vhxFinds.map cFind), .imm 3 (vhxSecrets.map cSecret), .imm 3 (vhxSlots.map cSlot), .imm 5 (vhxClaims.map cClaim), .imm 4 (vhxTrials.map cTrial), .imm 5 (vhxChain.map cHand), .imm 4 (vhxBook.map cEntry), .i .i64 vhxNow])])) (evO (fun (zr : Bool) => (XE.ret, frm [(2, .b zr)], [])) (fun (zr : Unit) => (XE.exit 0, frm [], []))) ?_ t16
  intro t16
  simp -dsimp +contextual (maxSteps := 100000000) only [↓evA, eZ, Nat.reduceAdd, Nat.reduceMul, Nat.reduceBEq, Nat.reduceLeDiff, Nat.reduceLT, e_impl_FindThing, e_impl_IsTrial, e_impl_MarksOf, e_impl_TrialState, e_impl_wanted]
  try simp only [impl_areTrials_l4, eY]
  all_goals rfl
theorem e_impl_areTrials (n : Nat) (vhxNo : Int) {R1} {vhxFinds : List Find} {R2} {vhxSecrets : List Secret} {R3} {vhxSlots : List Slot} {R4} {vhxClaims : List Claim} {R5} {vhxTrials : List Trial} {R6} {vhxChain : List Hand} {R7} {vhxBook : List Entry} (vhxNow : Int) [H1 : EncL cFind R1 vhxFinds] [H2 : EncL cSecret R2 vhxSecrets] [H3 : EncL cSlot R3 vhxSlots] [H4 : EncL cClaim R4 vhxClaims] [H5 : EncL cTrial R5 vhxTrials] [H6 : EncL cHand R6 vhxChain] [H7 : EncL cEntry R7 vhxBook] : CP T (n + 7) 163 [.agg [.i .i64 vhxNo, .imm 8 R1, .imm 3 R2, .imm 3 R3, .imm 5 R4, .imm 4 R5, .imm 5 R6, .imm 4 R7, .i .i64 vhxNow]] = (impl_areTrials (⟨vhxNo, vhxFinds, vhxSecrets, vhxSlots, vhxClaims, vhxTrials, vhxChain, vhxBook, vhxNow⟩ : House)).map fun r => .b r := by
  rcases H1, H2, H3, H4, H5, H6, H7 with ⟨⟨rfl⟩, ⟨rfl⟩, ⟨rfl⟩, ⟨rfl⟩, ⟨rfl⟩, ⟨rfl⟩, ⟨rfl⟩⟩
  rw [CP_eq]
  simp -dsimp +contextual (maxSteps := 100000000) only [↓evA, eZ, Nat.reduceAdd, Nat.reduceMul, Nat.reduceBEq, Nat.reduceLeDiff, Nat.reduceLT, Tryz.func163, Tryz.f163, a163, e_impl_areTrials_l4]
  try simp only [impl_areTrials, eY]
  all_goals rfl
theorem e_impl_latest_l3 (n : Nat) (vhxNo : Int) {R1} {vhxFinds : List Find} {R2} {vhxSecrets : List Secret} {R3} {vhxSlots : List Slot} {R4} {vhxClaims : List Claim} {R5} {vhxTrials : List Trial} {R6} {vhxChain : List Hand} {R7} {vhxBook : List Entry} (vhxNow : Int) (vat : Int) {R8} {t13 : List Find} (t14 : Int) (t15 : Int) [H1 : EncL cFind R1 vhxFinds] [H2 : EncL cSecret R2 vhxSecrets] [H3 : EncL cSlot R3 vhxSlots] [H4 : EncL cClaim R4 vhxClaims] [H5 : EncL cTrial R5 vhxTrials] [H6 : EncL cHand R6 vhxChain] [H7 : EncL cEntry R7 vhxBook] [H8 : EncL cFind R8 t13] : LP T (n + 1) 164 3 (frm [(1, .ptr 0 0 0), (3, .i .i64 vat), (13, .imm 8 R8), (14, .i .i64 t14), (15, .i .i64 t15)]) [some (Ent.box [.i .i64 vhxNo, .imm 8 R1, .imm 3 R2, .imm 3 R3, .imm 5 R4, .imm 4 R5, .imm 5 R6, .imm 4 R7, .i .i64 vhxNow])] =
    (run (impl_latest_l3 (⟨vhxNo, vhxFinds, vhxSecrets, vhxSlots, vhxClaims, vhxTrials, vhxChain, vhxBook, vhxNow⟩ : House) t13 t14) (vat, t15)).map (fun (zr : Int) => (XE.exit 0, frm [(1, .ptr 0 0 0), (3, .i .i64 zr)], [some (Ent.box [.i .i64 vhxNo, .imm 8 (vhxFinds.map cFind), .imm 3 (vhxSecrets.map cSecret), .imm 3 (vhxSlots.map cSlot), .imm 5 (vhxClaims.map cClaim), .imm 4 (vhxTrials.map cTrial), .imm 5 (vhxChain.map cHand), .imm 4 (vhxBook.map cEntry), .i .i64 vhxNow])])) := by
  rcases H1, H2, H3, H4, H5, H6, H7, H8 with ⟨⟨rfl⟩, ⟨rfl⟩, ⟨rfl⟩, ⟨rfl⟩, ⟨rfl⟩, ⟨rfl⟩, ⟨rfl⟩, ⟨rfl⟩⟩
  rw [LP_eq]
  simp -dsimp only [↓evA, evB, lpG_eq, Tryz.func164, Tryz.f164, a164, TP, TZ, Nat.reduceAdd, Nat.reduceMul, Nat.reduceBEq, Nat.reduceLeDiff, Nat.reduceLT]
  refine run_map (fun (zs : Int × Int) => (frm [(1, .ptr 0 0 0), (3, .i .i64 zs.1), (13, .imm 8 (t13.map cFind)), (14, .i .i64 t14), (15, .i .i64 zs.2)], [some (Ent.box [.i .i64 vhxNo, .imm 8 (vhxFinds.map cFind), .imm 3 (vhxSecrets.map cSecret), .imm 3 (vhxSlots.map cSlot), .imm 5 (vhxClaims.map cClaim), .imm 4 (vhxTrials.map cTrial), .imm 5 (vhxChain.map cHand), .imm 4 (vhxBook.map cEntry), .i .i64 vhxNow])])) (fun (zr : Int) => (XE.exit 0, frm [(1, .ptr 0 0 0), (3, .i .i64 zr)], [some (Ent.box [.i .i64 vhxNo, .imm 8 (vhxFinds.map cFind), .imm 3 (vhxSecrets.map cSecret), .imm 3 (vhxSlots.map cSlot), .imm 5 (vhxClaims.map cClaim), .imm 4 (vhxTrials.map cTrial), .imm 5 (vhxChain.map cHand), .imm 4 (vhxBook.map cEntry), .i .i64 vhxNow])])) ?_ (vat, t15)
  rintro ⟨vat, t15⟩
  simp -dsimp +contextual (maxSteps := 100000000) only [↓evA, eZ, Nat.reduceAdd, Nat.reduceMul, Nat.reduceBEq, Nat.reduceLeDiff, Nat.reduceLT]
  try simp only [impl_latest_l3, eY]
  all_goals rfl
theorem e_impl_latest_l8 (n : Nat) (vhxNo : Int) {R1} {vhxFinds : List Find} {R2} {vhxSecrets : List Secret} {R3} {vhxSlots : List Slot} {R4} {vhxClaims : List Claim} {R5} {vhxTrials : List Trial} {R6} {vhxChain : List Hand} {R7} {vhxBook : List Entry} (vhxNow : Int) (vat : Int) {R8} {t25 : List Claim} (t26 : Int) (t27 : Int) [H1 : EncL cFind R1 vhxFinds] [H2 : EncL cSecret R2 vhxSecrets] [H3 : EncL cSlot R3 vhxSlots] [H4 : EncL cClaim R4 vhxClaims] [H5 : EncL cTrial R5 vhxTrials] [H6 : EncL cHand R6 vhxChain] [H7 : EncL cEntry R7 vhxBook] [H8 : EncL cClaim R8 t25] : LP T (n + 1) 164 8 (frm [(1, .ptr 0 0 0), (3, .i .i64 vat), (25, .imm 5 R8), (26, .i .i64 t26), (27, .i .i64 t27)]) [some (Ent.box [.i .i64 vhxNo, .imm 8 R1, .imm 3 R2, .imm 3 R3, .imm 5 R4, .imm 4 R5, .imm 5 R6, .imm 4 R7, .i .i64 vhxNow])] =
    (run (impl_latest_l8 (⟨vhxNo, vhxFinds, vhxSecrets, vhxSlots, vhxClaims, vhxTrials, vhxChain, vhxBook, vhxNow⟩ : House) t25 t26) (vat, t27)).map (fun (zr : Int) => (XE.exit 2, frm [(1, .ptr 0 0 0), (3, .i .i64 zr)], [some (Ent.box [.i .i64 vhxNo, .imm 8 (vhxFinds.map cFind), .imm 3 (vhxSecrets.map cSecret), .imm 3 (vhxSlots.map cSlot), .imm 5 (vhxClaims.map cClaim), .imm 4 (vhxTrials.map cTrial), .imm 5 (vhxChain.map cHand), .imm 4 (vhxBook.map cEntry), .i .i64 vhxNow])])) := by
  rcases H1, H2, H3, H4, H5, H6, H7, H8 with ⟨⟨rfl⟩, ⟨rfl⟩, ⟨rfl⟩, ⟨rfl⟩, ⟨rfl⟩, ⟨rfl⟩, ⟨rfl⟩, ⟨rfl⟩⟩
  rw [LP_eq]
  simp -dsimp only [↓evA, evB, lpG_eq, Tryz.func164, Tryz.f164, a164, TP, TZ, Nat.reduceAdd, Nat.reduceMul, Nat.reduceBEq, Nat.reduceLeDiff, Nat.reduceLT]
  refine run_map (fun (zs : Int × Int) => (frm [(1, .ptr 0 0 0), (3, .i .i64 zs.1), (25, .imm 5 (t25.map cClaim)), (26, .i .i64 t26), (27, .i .i64 zs.2)], [some (Ent.box [.i .i64 vhxNo, .imm 8 (vhxFinds.map cFind), .imm 3 (vhxSecrets.map cSecret), .imm 3 (vhxSlots.map cSlot), .imm 5 (vhxClaims.map cClaim), .imm 4 (vhxTrials.map cTrial), .imm 5 (vhxChain.map cHand), .imm 4 (vhxBook.map cEntry), .i .i64 vhxNow])])) (fun (zr : Int) => (XE.exit 2, frm [(1, .ptr 0 0 0), (3, .i .i64 zr)], [some (Ent.box [.i .i64 vhxNo, .imm 8 (vhxFinds.map cFind), .imm 3 (vhxSecrets.map cSecret), .imm 3 (vhxSlots.map cSlot), .imm 5 (vhxClaims.map cClaim), .imm 4 (vhxTrials.map cTrial), .imm 5 (vhxChain.map cHand), .imm 4 (vhxBook.map cEntry), .i .i64 vhxNow])])) ?_ (vat, t27)
  rintro ⟨vat, t27⟩
  simp -dsimp +contextual (maxSteps := 100000000) only [↓evA, eZ, Nat.reduceAdd, Nat.reduceMul, Nat.reduceBEq, Nat.reduceLeDiff, Nat.reduceLT]
  try simp only [impl_latest_l8, eY]
  all_goals rfl
theorem e_impl_latest_l13 (n : Nat) (vhxNo : Int) {R1} {vhxFinds : List Find} {R2} {vhxSecrets : List Secret} {R3} {vhxSlots : List Slot} {R4} {vhxClaims : List Claim} {R5} {vhxTrials : List Trial} {R6} {vhxChain : List Hand} {R7} {vhxBook : List Entry} (vhxNow : Int) (vat : Int) {R8} {t37 : List Hand} (t38 : Int) (t39 : Int) [H1 : EncL cFind R1 vhxFinds] [H2 : EncL cSecret R2 vhxSecrets] [H3 : EncL cSlot R3 vhxSlots] [H4 : EncL cClaim R4 vhxClaims] [H5 : EncL cTrial R5 vhxTrials] [H6 : EncL cHand R6 vhxChain] [H7 : EncL cEntry R7 vhxBook] [H8 : EncL cHand R8 t37] : LP T (n + 1) 164 13 (frm [(1, .ptr 0 0 0), (3, .i .i64 vat), (37, .imm 5 R8), (38, .i .i64 t38), (39, .i .i64 t39)]) [some (Ent.box [.i .i64 vhxNo, .imm 8 R1, .imm 3 R2, .imm 3 R3, .imm 5 R4, .imm 4 R5, .imm 5 R6, .imm 4 R7, .i .i64 vhxNow])] =
    (run (impl_latest_l13 (⟨vhxNo, vhxFinds, vhxSecrets, vhxSlots, vhxClaims, vhxTrials, vhxChain, vhxBook, vhxNow⟩ : House) t37 t38) (vat, t39)).map (fun (zr : Int) => (XE.exit 4, frm [(1, .ptr 0 0 0), (3, .i .i64 zr)], [some (Ent.box [.i .i64 vhxNo, .imm 8 (vhxFinds.map cFind), .imm 3 (vhxSecrets.map cSecret), .imm 3 (vhxSlots.map cSlot), .imm 5 (vhxClaims.map cClaim), .imm 4 (vhxTrials.map cTrial), .imm 5 (vhxChain.map cHand), .imm 4 (vhxBook.map cEntry), .i .i64 vhxNow])])) := by
  rcases H1, H2, H3, H4, H5, H6, H7, H8 with ⟨⟨rfl⟩, ⟨rfl⟩, ⟨rfl⟩, ⟨rfl⟩, ⟨rfl⟩, ⟨rfl⟩, ⟨rfl⟩, ⟨rfl⟩⟩
  rw [LP_eq]
  simp -dsimp only [↓evA, evB, lpG_eq, Tryz.func164, Tryz.f164, a164, TP, TZ, Nat.reduceAdd, Nat.reduceMul, Nat.reduceBEq, Nat.reduceLeDiff, Nat.reduceLT]
  refine run_map (fun (zs : Int × Int) => (frm [(1, .ptr 0 0 0), (3, .i .i64 zs.1), (37, .imm 5 (t37.map cHand)), (38, .i .i64 t38), (39, .i .i64 zs.2)], [some (Ent.box [.i .i64 vhxNo, .imm 8 (vhxFinds.map cFind), .imm 3 (vhxSecrets.map cSecret), .imm 3 (vhxSlots.map cSlot), .imm 5 (vhxClaims.map cClaim), .imm 4 (vhxTrials.map cTrial), .imm 5 (vhxChain.map cHand), .imm 4 (vhxBook.map cEntry), .i .i64 vhxNow])])) (fun (zr : Int) => (XE.exit 4, frm [(1, .ptr 0 0 0), (3, .i .i64 zr)], [some (Ent.box [.i .i64 vhxNo, .imm 8 (vhxFinds.map cFind), .imm 3 (vhxSecrets.map cSecret), .imm 3 (vhxSlots.map cSlot), .imm 5 (vhxClaims.map cClaim), .imm 4 (vhxTrials.map cTrial), .imm 5 (vhxChain.map cHand), .imm 4 (vhxBook.map cEntry), .i .i64 vhxNow])])) ?_ (vat, t39)
  rintro ⟨vat, t39⟩
  simp -dsimp +contextual (maxSteps := 100000000) only [↓evA, eZ, Nat.reduceAdd, Nat.reduceMul, Nat.reduceBEq, Nat.reduceLeDiff, Nat.reduceLT]
  try simp only [impl_latest_l13, eY]
  all_goals rfl
theorem e_impl_latest_l18 (n : Nat) (vat : Int) {R1} {t49 : List Entry} (t50 : Int) (t51 : Int) [H1 : EncL cEntry R1 t49] : LP T (n + 1) 164 18 (frm [(3, .i .i64 vat), (49, .imm 4 R1), (50, .i .i64 t50), (51, .i .i64 t51)]) [] =
    (run (impl_latest_l18 t49 t50) (vat, t51)).map (fun (zr : Int) => (XE.exit 6, frm [(3, .i .i64 zr)], [])) := by
  obtain ⟨rfl⟩ := H1
  rw [LP_eq]
  simp -dsimp only [↓evA, evB, lpG_eq, Tryz.func164, Tryz.f164, a164, TP, TZ, Nat.reduceAdd, Nat.reduceMul, Nat.reduceBEq, Nat.reduceLeDiff, Nat.reduceLT]
  refine run_map (fun (zs : Int × Int) => (frm [(3, .i .i64 zs.1), (49, .imm 4 (t49.map cEntry)), (50, .i .i64 t50), (51, .i .i64 zs.2)], [])) (fun (zr : Int) => (XE.exit 6, frm [(3, .i .i64 zr)], [])) ?_ (vat, t51)
  rintro ⟨vat, t51⟩
  simp -dsimp +contextual only [↓evA, eZ, Nat.reduceAdd, Nat.reduceMul, Nat.reduceBEq, Nat.reduceLeDiff, Nat.reduceLT]
  try simp only [impl_latest_l18, eY]
  all_goals rfl
theorem e_impl_latest (n : Nat) (vhxNo : Int) {R1} {vhxFinds : List Find} {R2} {vhxSecrets : List Secret} {R3} {vhxSlots : List Slot} {R4} {vhxClaims : List Claim} {R5} {vhxTrials : List Trial} {R6} {vhxChain : List Hand} {R7} {vhxBook : List Entry} (vhxNow : Int) [H1 : EncL cFind R1 vhxFinds] [H2 : EncL cSecret R2 vhxSecrets] [H3 : EncL cSlot R3 vhxSlots] [H4 : EncL cClaim R4 vhxClaims] [H5 : EncL cTrial R5 vhxTrials] [H6 : EncL cHand R6 vhxChain] [H7 : EncL cEntry R7 vhxBook] : CP T (n + 2) 164 [.agg [.i .i64 vhxNo, .imm 8 R1, .imm 3 R2, .imm 3 R3, .imm 5 R4, .imm 4 R5, .imm 5 R6, .imm 4 R7, .i .i64 vhxNow]] = (impl_latest (⟨vhxNo, vhxFinds, vhxSecrets, vhxSlots, vhxClaims, vhxTrials, vhxChain, vhxBook, vhxNow⟩ : House)).map fun r => .i .i64 r := by
  rcases H1, H2, H3, H4, H5, H6, H7 with ⟨⟨rfl⟩, ⟨rfl⟩, ⟨rfl⟩, ⟨rfl⟩, ⟨rfl⟩, ⟨rfl⟩, ⟨rfl⟩⟩
  rw [CP_eq]
  simp -dsimp +contextual (maxSteps := 100000000) only [↓evA, eZ, Nat.reduceAdd, Nat.reduceMul, Nat.reduceBEq, Nat.reduceLeDiff, Nat.reduceLT, Tryz.func164, Tryz.f164, a164, e_impl_latest_l3, e_impl_latest_l8, e_impl_latest_l13, e_impl_latest_l18]
  try simp only [impl_latest, eY]
  all_goals rfl
theorem e_impl_IsHouse (n : Nat) (vhxNo : Int) {R1} {vhxFinds : List Find} {R2} {vhxSecrets : List Secret} {R3} {vhxSlots : List Slot} {R4} {vhxClaims : List Claim} {R5} {vhxTrials : List Trial} {R6} {vhxChain : List Hand} {R7} {vhxBook : List Entry} (vhxNow : Int) [H1 : EncL cFind R1 vhxFinds] [H2 : EncL cSecret R2 vhxSecrets] [H3 : EncL cSlot R3 vhxSlots] [H4 : EncL cClaim R4 vhxClaims] [H5 : EncL cTrial R5 vhxTrials] [H6 : EncL cHand R6 vhxChain] [H7 : EncL cEntry R7 vhxBook] : CP T (n + 11) 64 [.agg [.i .i64 vhxNo, .imm 8 R1, .imm 3 R2, .imm 3 R3, .imm 5 R4, .imm 4 R5, .imm 5 R6, .imm 4 R7, .i .i64 vhxNow]] = (impl_IsHouse (⟨vhxNo, vhxFinds, vhxSecrets, vhxSlots, vhxClaims, vhxTrials, vhxChain, vhxBook, vhxNow⟩ : House)).map fun r => .b r := by
  rcases H1, H2, H3, H4, H5, H6, H7 with ⟨⟨rfl⟩, ⟨rfl⟩, ⟨rfl⟩, ⟨rfl⟩, ⟨rfl⟩, ⟨rfl⟩, ⟨rfl⟩⟩
  rw [CP_eq]
  simp -dsimp +contextual (maxSteps := 100000000) only [↓evA, eZ, Nat.reduceAdd, Nat.reduceMul, Nat.reduceBEq, Nat.reduceLeDiff, Nat.reduceLT, Tryz.func64, Tryz.f64, a64, e_impl_InRange, e_impl_AreFinds, e_impl_AreSecrets, e_impl_AreSlots, e_impl_AreClaims, e_impl_IsChain, e_impl_AreEntries, e_impl_areKept, e_impl_areTrials, e_impl_latest]
  try simp only [impl_IsHouse, eY]
  all_goals rfl
theorem e_impl_stepped (n : Nat) (vhxNo : Int) {R1} {vhxFinds : List Find} {R2} {vhxSecrets : List Secret} {R3} {vhxSlots : List Slot} {R4} {vhxClaims : List Claim} {R5} {vhxTrials : List Trial} {R6} {vhxChain : List Hand} {R7} {vhxBook : List Entry} (vhxNow : Int) (outxNo : Int) {R8} {outxFinds : List Find} {R9} {outxSecrets : List Secret} {R10} {outxSlots : List Slot} {R11} {outxClaims : List Claim} {R12} {outxTrials : List Trial} {R13} {outxChain : List Hand} {R14} {outxBook : List Entry} (outxNow : Int) {R15} {done : List Bool} [H1 : EncL cFind R1 vhxFinds] [H2 : EncL cSecret R2 vhxSecrets] [H3 : EncL cSlot R3 vhxSlots] [H4 : EncL cClaim R4 vhxClaims] [H5 : EncL cTrial R5 vhxTrials] [H6 : EncL cHand R6 vhxChain] [H7 : EncL cEntry R7 vhxBook] [H8 : EncL cFind R8 outxFinds] [H9 : EncL cSecretO R9 outxSecrets] [H10 : EncL cSlot R10 outxSlots] [H11 : EncL cClaim R11 outxClaims] [H12 : EncL cTrial R12 outxTrials] [H13 : EncL cHand R13 outxChain] [H14 : EncL cEntry R14 outxBook] [H15 : EncL c_b R15 done] : CM T (n + 12) 100 [some (Ent.lst 8 R8), some (Ent.lst 3 R9), some (Ent.lst 3 R10), some (Ent.lst 5 R11), some (Ent.lst 4 R12), some (Ent.lst 5 R13), some (Ent.lst 4 R14), some (Ent.lst 1 R15)] [.agg [.i .i64 vhxNo, .imm 8 R1, .imm 3 R2, .imm 3 R3, .imm 5 R4, .imm 4 R5, .imm 5 R6, .imm 4 R7, .i .i64 vhxNow], .agg [.i .i64 outxNo, .sl 0, .sl 1, .sl 2, .sl 3, .sl 4, .sl 5, .sl 6, .i .i64 outxNow], .sl 7] = (impl_stepped (⟨vhxNo, vhxFinds, vhxSecrets, vhxSlots, vhxClaims, vhxTrials, vhxChain, vhxBook, vhxNow⟩ : House) (⟨outxNo, outxFinds, outxSecrets, outxSlots, outxClaims, outxTrials, outxChain, outxBook, outxNow⟩ : House) done).map fun r => .tup [.agg (cHouseO r.1), .b r.2] := by
  rcases H1, H2, H3, H4, H5, H6, H7, H8, H9, H10, H11, H12, H13, H14, H15 with ⟨⟨rfl⟩, ⟨rfl⟩, ⟨rfl⟩, ⟨rfl⟩, ⟨rfl⟩, ⟨rfl⟩, ⟨rfl⟩, ⟨rfl⟩, ⟨rfl⟩, ⟨rfl⟩, ⟨rfl⟩, ⟨rfl⟩, ⟨rfl⟩, ⟨rfl⟩, ⟨rfl⟩⟩
  rw [CM_eq]
  simp -dsimp +contextual (maxSteps := 100000000) only [↓evA, eZ, Nat.reduceAdd, Nat.reduceMul, Nat.reduceBEq, Nat.reduceLeDiff, Nat.reduceLT, Tryz.func100, Tryz.f100, a100, e_slices_Contains_bool, e_impl_IsHouse, e_impl_cloneHouse]
  try simp only [impl_stepped, eY]
  all_goals rfl
theorem e_impl_StepFind (n : Nat) (vhxNo : Int) {R1} {vhxFinds : List Find} {R2} {vhxSecrets : List Secret} {R3} {vhxSlots : List Slot} {R4} {vhxClaims : List Claim} {R5} {vhxTrials : List Trial} {R6} {vhxChain : List Hand} {R7} {vhxBook : List Entry} (vhxNow : Int) (axThingxId : Int) (axThingxKind : Int) (axThingxColour : Int) (axThingxSize : Int) (axThingxWorth : Int) (axPlace : Int) (axAt : Int) (axFinder : Int) {R8} {a2 : List Mark} (a3 : Int) [H1 : EncL cFind R1 vhxFinds] [H2 : EncL cSecret R2 vhxSecrets] [H3 : EncL cSlot R3 vhxSlots] [H4 : EncL cClaim R4 vhxClaims] [H5 : EncL cTrial R5 vhxTrials] [H6 : EncL cHand R6 vhxChain] [H7 : EncL cEntry R7 vhxBook] [H8 : EncL cMark R8 a2] : CP T (n + 13) 38 [.agg [.i .i64 vhxNo, .imm 8 R1, .imm 3 R2, .imm 3 R3, .imm 5 R4, .imm 4 R5, .imm 5 R6, .imm 4 R7, .i .i64 vhxNow], .agg [.i .i64 axThingxId, .i .i64 axThingxKind, .i .i64 axThingxColour, .i .i64 axThingxSize, .i .i64 axThingxWorth, .i .i64 axPlace, .i .i64 axAt, .i .i64 axFinder], .imm 2 R8, .i .i64 a3] = (impl_StepFind (⟨vhxNo, vhxFinds, vhxSecrets, vhxSlots, vhxClaims, vhxTrials, vhxChain, vhxBook, vhxNow⟩ : House) (⟨⟨axThingxId, axThingxKind, axThingxColour, axThingxSize, axThingxWorth⟩, axPlace, axAt, axFinder⟩ : Find) a2 a3).map fun r => .tup [.agg (cHouseO r.1), .b r.2] := by
  rcases H1, H2, H3, H4, H5, H6, H7, H8 with ⟨⟨rfl⟩, ⟨rfl⟩, ⟨rfl⟩, ⟨rfl⟩, ⟨rfl⟩, ⟨rfl⟩, ⟨rfl⟩, ⟨rfl⟩⟩
  rw [CP_eq]
  simp -dsimp +contextual (maxSteps := 100000000) only [↓evA, eZ, Nat.reduceAdd, Nat.reduceMul, Nat.reduceBEq, Nat.reduceLeDiff, Nat.reduceLT, Tryz.func38, Tryz.f38, a38, srt, e_impl_cloneHouse, e_impl_PutFind, e_impl_PutSecret, e_impl_PutAway, e_impl_AddHand, e_impl_stepped]
  try simp only [impl_StepFind, eY]
  all_goals rfl
theorem e_laws_eqThing (n : Nat) (axId : Int) (axKind : Int) (axColour : Int) (axSize : Int) (axWorth : Int) (bxId : Int) (bxKind : Int) (bxColour : Int) (bxSize : Int) (bxWorth : Int) : CP T (n + 1) 228 [.agg [.i .i64 axId, .i .i64 axKind, .i .i64 axColour, .i .i64 axSize, .i .i64 axWorth], .agg [.i .i64 bxId, .i .i64 bxKind, .i .i64 bxColour, .i .i64 bxSize, .i .i64 bxWorth]] = (laws_eqThing (⟨axId, axKind, axColour, axSize, axWorth⟩ : Thing) (⟨bxId, bxKind, bxColour, bxSize, bxWorth⟩ : Thing)).map fun r => .b r := by
  rw [CP_eq]
  simp -dsimp +contextual only [↓evA, eZ, Nat.reduceAdd, Nat.reduceMul, Nat.reduceBEq, Nat.reduceLeDiff, Nat.reduceLT, Tryz.func228, Tryz.f228, a228]
  try simp only [laws_eqThing, eY]
  all_goals rfl
theorem e_laws_eqFind (n : Nat) (axThingxId : Int) (axThingxKind : Int) (axThingxColour : Int) (axThingxSize : Int) (axThingxWorth : Int) (axPlace : Int) (axAt : Int) (axFinder : Int) (bxThingxId : Int) (bxThingxKind : Int) (bxThingxColour : Int) (bxThingxSize : Int) (bxThingxWorth : Int) (bxPlace : Int) (bxAt : Int) (bxFinder : Int) : CP T (n + 2) 146 [.agg [.i .i64 axThingxId, .i .i64 axThingxKind, .i .i64 axThingxColour, .i .i64 axThingxSize, .i .i64 axThingxWorth, .i .i64 axPlace, .i .i64 axAt, .i .i64 axFinder], .agg [.i .i64 bxThingxId, .i .i64 bxThingxKind, .i .i64 bxThingxColour, .i .i64 bxThingxSize, .i .i64 bxThingxWorth, .i .i64 bxPlace, .i .i64 bxAt, .i .i64 bxFinder]] = (laws_eqFind (⟨⟨axThingxId, axThingxKind, axThingxColour, axThingxSize, axThingxWorth⟩, axPlace, axAt, axFinder⟩ : Find) (⟨⟨bxThingxId, bxThingxKind, bxThingxColour, bxThingxSize, bxThingxWorth⟩, bxPlace, bxAt, bxFinder⟩ : Find)).map fun r => .b r := by
  rw [CP_eq]
  simp -dsimp +contextual only [↓evA, eZ, Nat.reduceAdd, Nat.reduceMul, Nat.reduceBEq, Nat.reduceLeDiff, Nat.reduceLT, Tryz.func146, Tryz.f146, a146, e_laws_eqThing]
  try simp only [laws_eqFind, eY]
  all_goals rfl
theorem e_laws_eqFindS_l4 (n : Nat) {R1} {a : List Find} {R2} {b : List Find} (i : Int) [H1 : EncL cFind R1 a] [H2 : EncL cFind R2 b] : LP T (n + 3) 65 4 (frm [(0, .imm 8 R1), (1, .imm 8 R2), (5, .i .i64 i)]) [] =
    lmap (run (laws_eqFindS_l4 a b) i) (fun (zr : Bool) => (XE.ret, frm [(4, .b zr)], [])) (fun (zr : Unit) => (XE.exit 0, frm [], [])) := by
  rcases H1, H2 with ⟨⟨rfl⟩, ⟨rfl⟩⟩
  rw [LP_eq]
  simp -dsimp only [↓evA, evB, lpG_eq, Tryz.func65, Tryz.f65, a65, TP, TZ, Nat.reduceAdd, Nat.reduceMul, Nat.reduceBEq, Nat.reduceLeDiff, Nat.reduceLT]
  refine run_map (fun (zs : Int) => (frm [(0, .imm 8 (a.map cFind)), (1, .imm 8 (b.map cFind)), (5, .i .i64 zs)], [])) (evO (fun (zr : Bool) => (XE.ret, frm [(4, .b zr)], [])) (fun (zr : Unit) => (XE.exit 0, frm [], []))) ?_ i
  intro i
  simp -dsimp +contextual only [↓evA, eZ, Nat.reduceAdd, Nat.reduceMul, Nat.reduceBEq, Nat.reduceLeDiff, Nat.reduceLT, e_laws_eqFind]
  try simp only [laws_eqFindS_l4, eY]
  all_goals rfl
theorem e_laws_eqFindS (n : Nat) {R1} {a : List Find} {R2} {b : List Find} [H1 : EncL cFind R1 a] [H2 : EncL cFind R2 b] : CP T (n + 4) 65 [.imm 8 R1, .imm 8 R2] = (laws_eqFindS a b).map fun r => .b r := by
  rcases H1, H2 with ⟨⟨rfl⟩, ⟨rfl⟩⟩
  rw [CP_eq]
  simp -dsimp +contextual only [↓evA, eZ, Nat.reduceAdd, Nat.reduceMul, Nat.reduceBEq, Nat.reduceLeDiff, Nat.reduceLT, Tryz.func65, Tryz.f65, a65, e_laws_eqFindS_l4]
  try simp only [laws_eqFindS, eY]
  all_goals rfl
theorem e_laws_eqMark (n : Nat) (axQuestion : Int) (axAnswer : Int) (bxQuestion : Int) (bxAnswer : Int) : CP T (n + 1) 139 [.agg [.i .i64 axQuestion, .i .i64 axAnswer], .agg [.i .i64 bxQuestion, .i .i64 bxAnswer]] = (laws_eqMark (⟨axQuestion, axAnswer⟩ : Mark) (⟨bxQuestion, bxAnswer⟩ : Mark)).map fun r => .b r := by
  rw [CP_eq]
  simp -dsimp +contextual only [↓evA, eZ, Nat.reduceAdd, Nat.reduceMul, Nat.reduceBEq, Nat.reduceLeDiff, Nat.reduceLT, Tryz.func139, Tryz.f139, a139]
  try simp only [laws_eqMark, eY]
  all_goals rfl
theorem e_laws_eqMarkS_l4 (n : Nat) {R1} {a : List Mark} {R2} {b : List Mark} (i : Int) [H1 : EncL cMark R1 a] [H2 : EncL cMark R2 b] : LP T (n + 2) 39 4 (frm [(0, .imm 2 R1), (1, .imm 2 R2), (5, .i .i64 i)]) [] =
    lmap (run (laws_eqMarkS_l4 a b) i) (fun (zr : Bool) => (XE.ret, frm [(4, .b zr)], [])) (fun (zr : Unit) => (XE.exit 0, frm [], [])) := by
  rcases H1, H2 with ⟨⟨rfl⟩, ⟨rfl⟩⟩
  rw [LP_eq]
  simp -dsimp only [↓evA, evB, lpG_eq, Tryz.func39, Tryz.f39, a39, TP, TZ, Nat.reduceAdd, Nat.reduceMul, Nat.reduceBEq, Nat.reduceLeDiff, Nat.reduceLT]
  refine run_map (fun (zs : Int) => (frm [(0, .imm 2 (a.map cMark)), (1, .imm 2 (b.map cMark)), (5, .i .i64 zs)], [])) (evO (fun (zr : Bool) => (XE.ret, frm [(4, .b zr)], [])) (fun (zr : Unit) => (XE.exit 0, frm [], []))) ?_ i
  intro i
  simp -dsimp +contextual only [↓evA, eZ, Nat.reduceAdd, Nat.reduceMul, Nat.reduceBEq, Nat.reduceLeDiff, Nat.reduceLT, e_laws_eqMark]
  try simp only [laws_eqMarkS_l4, eY]
  all_goals rfl
theorem e_laws_eqMarkS (n : Nat) {R1} {a : List Mark} {R2} {b : List Mark} [H1 : EncL cMark R1 a] [H2 : EncL cMark R2 b] : CP T (n + 3) 39 [.imm 2 R1, .imm 2 R2] = (laws_eqMarkS a b).map fun r => .b r := by
  rcases H1, H2 with ⟨⟨rfl⟩, ⟨rfl⟩⟩
  rw [CP_eq]
  simp -dsimp +contextual only [↓evA, eZ, Nat.reduceAdd, Nat.reduceMul, Nat.reduceBEq, Nat.reduceLeDiff, Nat.reduceLT, Tryz.func39, Tryz.f39, a39, e_laws_eqMarkS_l4]
  try simp only [laws_eqMarkS, eY]
  all_goals rfl
theorem e_laws_eqSecret (n : Nat) (axThing : Int) {R1} {axMarks : List Mark} (axSalt : Int) (bxThing : Int) {R2} {bxMarks : List Mark} (bxSalt : Int) [H1 : EncL cMark R1 axMarks] [H2 : EncL cMark R2 bxMarks] : CP T (n + 4) 165 [.agg [.i .i64 axThing, .imm 2 R1, .i .i64 axSalt], .agg [.i .i64 bxThing, .imm 2 R2, .i .i64 bxSalt]] = (laws_eqSecret (⟨axThing, axMarks, axSalt⟩ : Secret) (⟨bxThing, bxMarks, bxSalt⟩ : Secret)).map fun r => .b r := by
  rcases H1, H2 with ⟨⟨rfl⟩, ⟨rfl⟩⟩
  rw [CP_eq]
  simp -dsimp +contextual only [↓evA, eZ, Nat.reduceAdd, Nat.reduceMul, Nat.reduceBEq, Nat.reduceLeDiff, Nat.reduceLT, Tryz.func165, Tryz.f165, a165, e_laws_eqMarkS]
  try simp only [laws_eqSecret, eY]
  all_goals rfl
theorem e_laws_eqSecretS_l4 (n : Nat) {R1} {a : List Secret} {R2} {b : List Secret} (i : Int) [H1 : EncL cSecret R1 a] [H2 : EncL cSecret R2 b] : LP T (n + 5) 66 4 (frm [(0, .imm 3 R1), (1, .imm 3 R2), (5, .i .i64 i)]) [] =
    lmap (run (laws_eqSecretS_l4 a b) i) (fun (zr : Bool) => (XE.ret, frm [(4, .b zr)], [])) (fun (zr : Unit) => (XE.exit 0, frm [], [])) := by
  rcases H1, H2 with ⟨⟨rfl⟩, ⟨rfl⟩⟩
  rw [LP_eq]
  simp -dsimp only [↓evA, evB, lpG_eq, Tryz.func66, Tryz.f66, a66, TP, TZ, Nat.reduceAdd, Nat.reduceMul, Nat.reduceBEq, Nat.reduceLeDiff, Nat.reduceLT]
  refine run_map (fun (zs : Int) => (frm [(0, .imm 3 (a.map cSecret)), (1, .imm 3 (b.map cSecret)), (5, .i .i64 zs)], [])) (evO (fun (zr : Bool) => (XE.ret, frm [(4, .b zr)], [])) (fun (zr : Unit) => (XE.exit 0, frm [], []))) ?_ i
  intro i
  simp -dsimp +contextual only [↓evA, eZ, Nat.reduceAdd, Nat.reduceMul, Nat.reduceBEq, Nat.reduceLeDiff, Nat.reduceLT, e_laws_eqSecret]
  try simp only [laws_eqSecretS_l4, eY]
  all_goals rfl
theorem e_laws_eqSecretS (n : Nat) {R1} {a : List Secret} {R2} {b : List Secret} [H1 : EncL cSecret R1 a] [H2 : EncL cSecret R2 b] : CP T (n + 6) 66 [.imm 3 R1, .imm 3 R2] = (laws_eqSecretS a b).map fun r => .b r := by
  rcases H1, H2 with ⟨⟨rfl⟩, ⟨rfl⟩⟩
  rw [CP_eq]
  simp -dsimp +contextual only [↓evA, eZ, Nat.reduceAdd, Nat.reduceMul, Nat.reduceBEq, Nat.reduceLeDiff, Nat.reduceLT, Tryz.func66, Tryz.f66, a66, e_laws_eqSecretS_l4]
  try simp only [laws_eqSecretS, eY]
  all_goals rfl
theorem e_laws_eqSlot (n : Nat) (axId : Int) (axSize : Int) (axThing : Int) (bxId : Int) (bxSize : Int) (bxThing : Int) : CP T (n + 1) 71 [.agg [.i .i64 axId, .i .i64 axSize, .i .i64 axThing], .agg [.i .i64 bxId, .i .i64 bxSize, .i .i64 bxThing]] = (laws_eqSlot (⟨axId, axSize, axThing⟩ : Slot) (⟨bxId, bxSize, bxThing⟩ : Slot)).map fun r => .b r := by
  rw [CP_eq]
  simp -dsimp +contextual only [↓evA, eZ, Nat.reduceAdd, Nat.reduceMul, Nat.reduceBEq, Nat.reduceLeDiff, Nat.reduceLT, Tryz.func71, Tryz.f71, a71]
  try simp only [laws_eqSlot, eY]
  all_goals rfl
theorem e_laws_eqSlotS_l4 (n : Nat) {R1} {a : List Slot} {R2} {b : List Slot} (i : Int) [H1 : EncL cSlot R1 a] [H2 : EncL cSlot R2 b] : LP T (n + 2) 18 4 (frm [(0, .imm 3 R1), (1, .imm 3 R2), (5, .i .i64 i)]) [] =
    lmap (run (laws_eqSlotS_l4 a b) i) (fun (zr : Bool) => (XE.ret, frm [(4, .b zr)], [])) (fun (zr : Unit) => (XE.exit 0, frm [], [])) := by
  rcases H1, H2 with ⟨⟨rfl⟩, ⟨rfl⟩⟩
  rw [LP_eq]
  simp -dsimp only [↓evA, evB, lpG_eq, Tryz.func18, Tryz.f18, a18, TP, TZ, Nat.reduceAdd, Nat.reduceMul, Nat.reduceBEq, Nat.reduceLeDiff, Nat.reduceLT]
  refine run_map (fun (zs : Int) => (frm [(0, .imm 3 (a.map cSlot)), (1, .imm 3 (b.map cSlot)), (5, .i .i64 zs)], [])) (evO (fun (zr : Bool) => (XE.ret, frm [(4, .b zr)], [])) (fun (zr : Unit) => (XE.exit 0, frm [], []))) ?_ i
  intro i
  simp -dsimp +contextual only [↓evA, eZ, Nat.reduceAdd, Nat.reduceMul, Nat.reduceBEq, Nat.reduceLeDiff, Nat.reduceLT, e_laws_eqSlot]
  try simp only [laws_eqSlotS_l4, eY]
  all_goals rfl
theorem e_laws_eqSlotS (n : Nat) {R1} {a : List Slot} {R2} {b : List Slot} [H1 : EncL cSlot R1 a] [H2 : EncL cSlot R2 b] : CP T (n + 3) 18 [.imm 3 R1, .imm 3 R2] = (laws_eqSlotS a b).map fun r => .b r := by
  rcases H1, H2 with ⟨⟨rfl⟩, ⟨rfl⟩⟩
  rw [CP_eq]
  simp -dsimp +contextual only [↓evA, eZ, Nat.reduceAdd, Nat.reduceMul, Nat.reduceBEq, Nat.reduceLeDiff, Nat.reduceLT, Tryz.func18, Tryz.f18, a18, e_laws_eqSlotS_l4]
  try simp only [laws_eqSlotS, eY]
  all_goals rfl
theorem e_laws_eqClaim (n : Nat) (axId : Int) (axWho : Int) (axThing : Int) (axAt : Int) (axState : Int) (bxId : Int) (bxWho : Int) (bxThing : Int) (bxAt : Int) (bxState : Int) : CP T (n + 1) 166 [.agg [.i .i64 axId, .i .i64 axWho, .i .i64 axThing, .i .i64 axAt, .i .i64 axState], .agg [.i .i64 bxId, .i .i64 bxWho, .i .i64 bxThing, .i .i64 bxAt, .i .i64 bxState]] = (laws_eqClaim (⟨axId, axWho, axThing, axAt, axState⟩ : Claim) (⟨bxId, bxWho, bxThing, bxAt, bxState⟩ : Claim)).map fun r => .b r := by
  rw [CP_eq]
  simp -dsimp +contextual only [↓evA, eZ, Nat.reduceAdd, Nat.reduceMul, Nat.reduceBEq, Nat.reduceLeDiff, Nat.reduceLT, Tryz.func166, Tryz.f166, a166]
  try simp only [laws_eqClaim, eY]
  all_goals rfl
theorem e_laws_eqClaimS_l4 (n : Nat) {R1} {a : List Claim} {R2} {b : List Claim} (i : Int) [H1 : EncL cClaim R1 a] [H2 : EncL cClaim R2 b] : LP T (n + 2) 67 4 (frm [(0, .imm 5 R1), (1, .imm 5 R2), (5, .i .i64 i)]) [] =
    lmap (run (laws_eqClaimS_l4 a b) i) (fun (zr : Bool) => (XE.ret, frm [(4, .b zr)], [])) (fun (zr : Unit) => (XE.exit 0, frm [], [])) := by
  rcases H1, H2 with ⟨⟨rfl⟩, ⟨rfl⟩⟩
  rw [LP_eq]
  simp -dsimp only [↓evA, evB, lpG_eq, Tryz.func67, Tryz.f67, a67, TP, TZ, Nat.reduceAdd, Nat.reduceMul, Nat.reduceBEq, Nat.reduceLeDiff, Nat.reduceLT]
  refine run_map (fun (zs : Int) => (frm [(0, .imm 5 (a.map cClaim)), (1, .imm 5 (b.map cClaim)), (5, .i .i64 zs)], [])) (evO (fun (zr : Bool) => (XE.ret, frm [(4, .b zr)], [])) (fun (zr : Unit) => (XE.exit 0, frm [], []))) ?_ i
  intro i
  simp -dsimp +contextual only [↓evA, eZ, Nat.reduceAdd, Nat.reduceMul, Nat.reduceBEq, Nat.reduceLeDiff, Nat.reduceLT, e_laws_eqClaim]
  try simp only [laws_eqClaimS_l4, eY]
  all_goals rfl
theorem e_laws_eqClaimS (n : Nat) {R1} {a : List Claim} {R2} {b : List Claim} [H1 : EncL cClaim R1 a] [H2 : EncL cClaim R2 b] : CP T (n + 3) 67 [.imm 5 R1, .imm 5 R2] = (laws_eqClaimS a b).map fun r => .b r := by
  rcases H1, H2 with ⟨⟨rfl⟩, ⟨rfl⟩⟩
  rw [CP_eq]
  simp -dsimp +contextual only [↓evA, eZ, Nat.reduceAdd, Nat.reduceMul, Nat.reduceBEq, Nat.reduceLeDiff, Nat.reduceLT, Tryz.func67, Tryz.f67, a67, e_laws_eqClaimS_l4]
  try simp only [laws_eqClaimS, eY]
  all_goals rfl
theorem e_laws_eqTrial (n : Nat) (axClaim : Int) (axAsked : Int) (axRight : Int) (axWrong : Int) (bxClaim : Int) (bxAsked : Int) (bxRight : Int) (bxWrong : Int) : CP T (n + 1) 167 [.agg [.i .i64 axClaim, .i .i64 axAsked, .i .i64 axRight, .i .i64 axWrong], .agg [.i .i64 bxClaim, .i .i64 bxAsked, .i .i64 bxRight, .i .i64 bxWrong]] = (laws_eqTrial (⟨axClaim, axAsked, axRight, axWrong⟩ : Trial) (⟨bxClaim, bxAsked, bxRight, bxWrong⟩ : Trial)).map fun r => .b r := by
  rw [CP_eq]
  simp -dsimp +contextual only [↓evA, eZ, Nat.reduceAdd, Nat.reduceMul, Nat.reduceBEq, Nat.reduceLeDiff, Nat.reduceLT, Tryz.func167, Tryz.f167, a167]
  try simp only [laws_eqTrial, eY]
  all_goals rfl
theorem e_laws_eqTrialS_l4 (n : Nat) {R1} {a : List Trial} {R2} {b : List Trial} (i : Int) [H1 : EncL cTrial R1 a] [H2 : EncL cTrial R2 b] : LP T (n + 2) 68 4 (frm [(0, .imm 4 R1), (1, .imm 4 R2), (5, .i .i64 i)]) [] =
    lmap (run (laws_eqTrialS_l4 a b) i) (fun (zr : Bool) => (XE.ret, frm [(4, .b zr)], [])) (fun (zr : Unit) => (XE.exit 0, frm [], [])) := by
  rcases H1, H2 with ⟨⟨rfl⟩, ⟨rfl⟩⟩
  rw [LP_eq]
  simp -dsimp only [↓evA, evB, lpG_eq, Tryz.func68, Tryz.f68, a68, TP, TZ, Nat.reduceAdd, Nat.reduceMul, Nat.reduceBEq, Nat.reduceLeDiff, Nat.reduceLT]
  refine run_map (fun (zs : Int) => (frm [(0, .imm 4 (a.map cTrial)), (1, .imm 4 (b.map cTrial)), (5, .i .i64 zs)], [])) (evO (fun (zr : Bool) => (XE.ret, frm [(4, .b zr)], [])) (fun (zr : Unit) => (XE.exit 0, frm [], []))) ?_ i
  intro i
  simp -dsimp +contextual only [↓evA, eZ, Nat.reduceAdd, Nat.reduceMul, Nat.reduceBEq, Nat.reduceLeDiff, Nat.reduceLT, e_laws_eqTrial]
  try simp only [laws_eqTrialS_l4, eY]
  all_goals rfl
theorem e_laws_eqTrialS (n : Nat) {R1} {a : List Trial} {R2} {b : List Trial} [H1 : EncL cTrial R1 a] [H2 : EncL cTrial R2 b] : CP T (n + 3) 68 [.imm 4 R1, .imm 4 R2] = (laws_eqTrialS a b).map fun r => .b r := by
  rcases H1, H2 with ⟨⟨rfl⟩, ⟨rfl⟩⟩
  rw [CP_eq]
  simp -dsimp +contextual only [↓evA, eZ, Nat.reduceAdd, Nat.reduceMul, Nat.reduceBEq, Nat.reduceLeDiff, Nat.reduceLT, Tryz.func68, Tryz.f68, a68, e_laws_eqTrialS_l4]
  try simp only [laws_eqTrialS, eY]
  all_goals rfl
theorem e_laws_eqHand (n : Nat) (axThing : Int) (axHolder : Int) (axWho : Int) (axAt : Int) (axSeal : Int) (bxThing : Int) (bxHolder : Int) (bxWho : Int) (bxAt : Int) (bxSeal : Int) : CP T (n + 1) 168 [.agg [.i .i64 axThing, .i .i64 axHolder, .i .i64 axWho, .i .i64 axAt, .i .i64 axSeal], .agg [.i .i64 bxThing, .i .i64 bxHolder, .i .i64 bxWho, .i .i64 bxAt, .i .i64 bxSeal]] = (laws_eqHand (⟨axThing, axHolder, axWho, axAt, axSeal⟩ : Hand) (⟨bxThing, bxHolder, bxWho, bxAt, bxSeal⟩ : Hand)).map fun r => .b r := by
  rw [CP_eq]
  simp -dsimp +contextual only [↓evA, eZ, Nat.reduceAdd, Nat.reduceMul, Nat.reduceBEq, Nat.reduceLeDiff, Nat.reduceLT, Tryz.func168, Tryz.f168, a168]
  try simp only [laws_eqHand, eY]
  all_goals rfl
theorem e_laws_eqHandS_l4 (n : Nat) {R1} {a : List Hand} {R2} {b : List Hand} (i : Int) [H1 : EncL cHand R1 a] [H2 : EncL cHand R2 b] : LP T (n + 2) 69 4 (frm [(0, .imm 5 R1), (1, .imm 5 R2), (5, .i .i64 i)]) [] =
    lmap (run (laws_eqHandS_l4 a b) i) (fun (zr : Bool) => (XE.ret, frm [(4, .b zr)], [])) (fun (zr : Unit) => (XE.exit 0, frm [], [])) := by
  rcases H1, H2 with ⟨⟨rfl⟩, ⟨rfl⟩⟩
  rw [LP_eq]
  simp -dsimp only [↓evA, evB, lpG_eq, Tryz.func69, Tryz.f69, a69, TP, TZ, Nat.reduceAdd, Nat.reduceMul, Nat.reduceBEq, Nat.reduceLeDiff, Nat.reduceLT]
  refine run_map (fun (zs : Int) => (frm [(0, .imm 5 (a.map cHand)), (1, .imm 5 (b.map cHand)), (5, .i .i64 zs)], [])) (evO (fun (zr : Bool) => (XE.ret, frm [(4, .b zr)], [])) (fun (zr : Unit) => (XE.exit 0, frm [], []))) ?_ i
  intro i
  simp -dsimp +contextual only [↓evA, eZ, Nat.reduceAdd, Nat.reduceMul, Nat.reduceBEq, Nat.reduceLeDiff, Nat.reduceLT, e_laws_eqHand]
  try simp only [laws_eqHandS_l4, eY]
  all_goals rfl
theorem e_laws_eqHandS (n : Nat) {R1} {a : List Hand} {R2} {b : List Hand} [H1 : EncL cHand R1 a] [H2 : EncL cHand R2 b] : CP T (n + 3) 69 [.imm 5 R1, .imm 5 R2] = (laws_eqHandS a b).map fun r => .b r := by
  rcases H1, H2 with ⟨⟨rfl⟩, ⟨rfl⟩⟩
  rw [CP_eq]
  simp -dsimp +contextual only [↓evA, eZ, Nat.reduceAdd, Nat.reduceMul, Nat.reduceBEq, Nat.reduceLeDiff, Nat.reduceLT, Tryz.func69, Tryz.f69, a69, e_laws_eqHandS_l4]
  try simp only [laws_eqHandS, eY]
  all_goals rfl
theorem e_laws_eqEntry (n : Nat) (axFrom : Int) (axTo : Int) (axCents : Int) (axAt : Int) (bxFrom : Int) (bxTo : Int) (bxCents : Int) (bxAt : Int) : CP T (n + 1) 169 [.agg [.i .i64 axFrom, .i .i64 axTo, .i .i64 axCents, .i .i64 axAt], .agg [.i .i64 bxFrom, .i .i64 bxTo, .i .i64 bxCents, .i .i64 bxAt]] = (laws_eqEntry (⟨axFrom, axTo, axCents, axAt⟩ : Entry) (⟨bxFrom, bxTo, bxCents, bxAt⟩ : Entry)).map fun r => .b r := by
  rw [CP_eq]
  simp -dsimp +contextual only [↓evA, eZ, Nat.reduceAdd, Nat.reduceMul, Nat.reduceBEq, Nat.reduceLeDiff, Nat.reduceLT, Tryz.func169, Tryz.f169, a169]
  try simp only [laws_eqEntry, eY]
  all_goals rfl
theorem e_laws_eqEntryS_l4 (n : Nat) {R1} {a : List Entry} {R2} {b : List Entry} (i : Int) [H1 : EncL cEntry R1 a] [H2 : EncL cEntry R2 b] : LP T (n + 2) 70 4 (frm [(0, .imm 4 R1), (1, .imm 4 R2), (5, .i .i64 i)]) [] =
    lmap (run (laws_eqEntryS_l4 a b) i) (fun (zr : Bool) => (XE.ret, frm [(4, .b zr)], [])) (fun (zr : Unit) => (XE.exit 0, frm [], [])) := by
  rcases H1, H2 with ⟨⟨rfl⟩, ⟨rfl⟩⟩
  rw [LP_eq]
  simp -dsimp only [↓evA, evB, lpG_eq, Tryz.func70, Tryz.f70, a70, TP, TZ, Nat.reduceAdd, Nat.reduceMul, Nat.reduceBEq, Nat.reduceLeDiff, Nat.reduceLT]
  refine run_map (fun (zs : Int) => (frm [(0, .imm 4 (a.map cEntry)), (1, .imm 4 (b.map cEntry)), (5, .i .i64 zs)], [])) (evO (fun (zr : Bool) => (XE.ret, frm [(4, .b zr)], [])) (fun (zr : Unit) => (XE.exit 0, frm [], []))) ?_ i
  intro i
  simp -dsimp +contextual only [↓evA, eZ, Nat.reduceAdd, Nat.reduceMul, Nat.reduceBEq, Nat.reduceLeDiff, Nat.reduceLT, e_laws_eqEntry]
  try simp only [laws_eqEntryS_l4, eY]
  all_goals rfl
theorem e_laws_eqEntryS (n : Nat) {R1} {a : List Entry} {R2} {b : List Entry} [H1 : EncL cEntry R1 a] [H2 : EncL cEntry R2 b] : CP T (n + 3) 70 [.imm 4 R1, .imm 4 R2] = (laws_eqEntryS a b).map fun r => .b r := by
  rcases H1, H2 with ⟨⟨rfl⟩, ⟨rfl⟩⟩
  rw [CP_eq]
  simp -dsimp +contextual only [↓evA, eZ, Nat.reduceAdd, Nat.reduceMul, Nat.reduceBEq, Nat.reduceLeDiff, Nat.reduceLT, Tryz.func70, Tryz.f70, a70, e_laws_eqEntryS_l4]
  try simp only [laws_eqEntryS, eY]
  all_goals rfl
theorem e_laws_eqHouse (n : Nat) (axNo : Int) {R1} {axFinds : List Find} {R2} {axSecrets : List Secret} {R3} {axSlots : List Slot} {R4} {axClaims : List Claim} {R5} {axTrials : List Trial} {R6} {axChain : List Hand} {R7} {axBook : List Entry} (axNow : Int) (bxNo : Int) {R8} {bxFinds : List Find} {R9} {bxSecrets : List Secret} {R10} {bxSlots : List Slot} {R11} {bxClaims : List Claim} {R12} {bxTrials : List Trial} {R13} {bxChain : List Hand} {R14} {bxBook : List Entry} (bxNow : Int) [H1 : EncL cFind R1 axFinds] [H2 : EncL cSecret R2 axSecrets] [H3 : EncL cSlot R3 axSlots] [H4 : EncL cClaim R4 axClaims] [H5 : EncL cTrial R5 axTrials] [H6 : EncL cHand R6 axChain] [H7 : EncL cEntry R7 axBook] [H8 : EncL cFind R8 bxFinds] [H9 : EncL cSecret R9 bxSecrets] [H10 : EncL cSlot R10 bxSlots] [H11 : EncL cClaim R11 bxClaims] [H12 : EncL cTrial R12 bxTrials] [H13 : EncL cHand R13 bxChain] [H14 : EncL cEntry R14 bxBook] : CP T (n + 7) 17 [.agg [.i .i64 axNo, .imm 8 R1, .imm 3 R2, .imm 3 R3, .imm 5 R4, .imm 4 R5, .imm 5 R6, .imm 4 R7, .i .i64 axNow], .agg [.i .i64 bxNo, .imm 8 R8, .imm 3 R9, .imm 3 R10, .imm 5 R11, .imm 4 R12, .imm 5 R13, .imm 4 R14, .i .i64 bxNow]] = (laws_eqHouse (⟨axNo, axFinds, axSecrets, axSlots, axClaims, axTrials, axChain, axBook, axNow⟩ : House) (⟨bxNo, bxFinds, bxSecrets, bxSlots, bxClaims, bxTrials, bxChain, bxBook, bxNow⟩ : House)).map fun r => .b r := by
  rcases H1, H2, H3, H4, H5, H6, H7, H8, H9, H10, H11, H12, H13, H14 with ⟨⟨rfl⟩, ⟨rfl⟩, ⟨rfl⟩, ⟨rfl⟩, ⟨rfl⟩, ⟨rfl⟩, ⟨rfl⟩, ⟨rfl⟩, ⟨rfl⟩, ⟨rfl⟩, ⟨rfl⟩, ⟨rfl⟩, ⟨rfl⟩, ⟨rfl⟩⟩
  rw [CP_eq]
  simp -dsimp +contextual (maxSteps := 100000000) only [↓evA, eZ, Nat.reduceAdd, Nat.reduceMul, Nat.reduceBEq, Nat.reduceLeDiff, Nat.reduceLT, Tryz.func17, Tryz.f17, a17, e_laws_eqFindS, e_laws_eqSecretS, e_laws_eqSlotS, e_laws_eqClaimS, e_laws_eqTrialS, e_laws_eqHandS, e_laws_eqEntryS]
  try simp only [laws_eqHouse, eY]
  all_goals rfl
theorem e_laws_markFindS_l2 (n : Nat) {R1} {a : List Find} (t1 : Int) (t5 : Int) [H1 : EncL cFind R1 a] : LP T (n + 1) 72 2 (frm [(0, .sl 0), (1, .i .i64 t1), (5, .i .i64 t5)]) [some (Ent.lst 8 R1)] =
    (run laws_markFindS_l2 (a, t1, t5)).map (fun (zr : (List Find) × Int) => (XE.exit 0, frm [(0, .sl 0), (1, .i .i64 zr.2)], [some (Ent.lst 8 (zr.1.map cFind))])) := by
  obtain ⟨rfl⟩ := H1
  rw [LP_eq]
  simp -dsimp only [↓evA, evB, lpG_eq, Tryz.func72, Tryz.f72, a72, TP, TZ, Nat.reduceAdd, Nat.reduceMul, Nat.reduceBEq, Nat.reduceLeDiff, Nat.reduceLT]
  refine run_map (fun (zs : (List Find) × Int × Int) => (frm [(0, .sl 0), (1, .i .i64 zs.2.1), (5, .i .i64 zs.2.2)], [some (Ent.lst 8 (zs.1.map cFind))])) (fun (zr : (List Find) × Int) => (XE.exit 0, frm [(0, .sl 0), (1, .i .i64 zr.2)], [some (Ent.lst 8 (zr.1.map cFind))])) ?_ (a, t1, t5)
  rintro ⟨a, t1, t5⟩
  simp -dsimp +contextual only [↓evA, eZ, Nat.reduceAdd, Nat.reduceMul, Nat.reduceBEq, Nat.reduceLeDiff, Nat.reduceLT]
  try simp only [laws_markFindS_l2, eY]
  all_goals rfl
end Go.Proofs.YtcdffihcfeajfaaGreat
