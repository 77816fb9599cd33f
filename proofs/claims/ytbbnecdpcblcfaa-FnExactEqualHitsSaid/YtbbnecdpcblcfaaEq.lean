/- The functions of the program come to the typed ones. No condition. -/
import Derived.Test.YtbbnecdpcblcfaaEc
namespace Go.Proofs.Ytbbnecdpcblcfaa
open Go Go.Proofs Go.Proofs.Ytbbnecdpcblcfaa.Am
set_option linter.unusedVariables false
set_option linter.unusedSimpArgs false
set_option linter.defProp false
set_option maxRecDepth 100000
theorem e_spec_l1In (n : Nat) (x : Int) (least : Int) (most : Int) : CP T (n + 1) 36 [.i .i64 x, .i .i64 least, .i .i64 most] = (spec_l1In x least most).map fun r => .b r := by
  rw [CP_eq]
  simp -dsimp +contextual only [↓evA, evB, evT, tys, encs, Nat.reduceAdd, Nat.reduceMul, Nat.reduceBEq, Nat.reduceLeDiff, Nat.reduceLT, Try.func36, Try.f36, a36, TP, orc_p, orc_l]
  try simp only [spec_l1In, evT, encs, c_js, r_map_some, e_need_t]
  all_goals rfl
theorem e_spec_EventName (n : Nat) (kind : Int) : CP T (n + 2) 9 [.i .i64 kind] = (spec_EventName kind).map fun r => .s r := by
  rw [CP_eq]
  simp -dsimp +contextual only [↓evA, evB, evT, tys, encs, Nat.reduceAdd, Nat.reduceMul, Nat.reduceBEq, Nat.reduceLeDiff, Nat.reduceLT, Try.func9, Try.f9, a9, TP, orc_p, orc_l, e_spec_l1In]
  try simp only [spec_EventName, evT, encs, c_js, r_map_some, e_need_t]
  all_goals rfl
theorem e_impl_EventName (n : Nat) (kind : Int) : CP T (n + 1) 10 [.i .i64 kind] = (impl_EventName kind).map fun r => .s r := by
  rw [CP_eq]
  simp -dsimp +contextual only [↓evA, evB, evT, tys, encs, Nat.reduceAdd, Nat.reduceMul, Nat.reduceBEq, Nat.reduceLeDiff, Nat.reduceLT, Try.func10, Try.f10, a10, TP, orc_p, orc_l]
  try simp only [impl_EventName, evT, encs, c_js, r_map_some, e_need_t]
  all_goals rfl
theorem e_laws_FnExactEventName (n : Nat) (aKind : Int) : CP T (n + 3) 3 [.i .i64 aKind] = (laws_FnExactEventName aKind).map fun r => .b r := by
  rw [CP_eq]
  simp -dsimp +contextual only [↓evA, evB, evT, tys, encs, Nat.reduceAdd, Nat.reduceMul, Nat.reduceBEq, Nat.reduceLeDiff, Nat.reduceLT, Try.func3, Try.f3, a3, TP, orc_p, orc_l, e_spec_EventName, e_impl_EventName]
  try simp only [laws_FnExactEventName, evT, encs, c_js, r_map_some, e_need_t]
  all_goals rfl
theorem e_spec_ExampleSlots (n : Nat) : CP T (n + 1) 11 [] = (spec_ExampleSlots).map fun r => .own 3 (r.map cSlot) := by
  rw [CP_eq]
  simp -dsimp +contextual only [↓evA, evB, evT, tys, encs, Nat.reduceAdd, Nat.reduceMul, Nat.reduceBEq, Nat.reduceLeDiff, Nat.reduceLT, Try.func11, Try.f11, a11, TP, orc_p, orc_l]
  try simp only [spec_ExampleSlots, evT, encs, c_js, r_map_some, e_need_t]
  all_goals rfl
theorem e_impl_ExampleSlots (n : Nat) : CP T (n + 1) 12 [] = (impl_ExampleSlots).map fun r => .own 3 (r.map cSlot) := by
  rw [CP_eq]
  simp -dsimp +contextual only [↓evA, evB, evT, tys, encs, Nat.reduceAdd, Nat.reduceMul, Nat.reduceBEq, Nat.reduceLeDiff, Nat.reduceLT, Try.func12, Try.f12, a12, TP, orc_p, orc_l]
  try simp only [impl_ExampleSlots, evT, encs, c_js, r_map_some, e_need_t]
  all_goals rfl
theorem e_laws_eqSlot (n : Nat) (axId : Int) (axSize : Int) (axThing : Int) (bxId : Int) (bxSize : Int) (bxThing : Int) : CP T (n + 1) 37 [.agg [.i .i64 axId, .i .i64 axSize, .i .i64 axThing], .agg [.i .i64 bxId, .i .i64 bxSize, .i .i64 bxThing]] = (laws_eqSlot (⟨axId, axSize, axThing⟩ : Slot) (⟨bxId, bxSize, bxThing⟩ : Slot)).map fun r => .b r := by
  rw [CP_eq]
  simp -dsimp +contextual only [↓evA, evB, evT, tys, encs, Nat.reduceAdd, Nat.reduceMul, Nat.reduceBEq, Nat.reduceLeDiff, Nat.reduceLT, Try.func37, Try.f37, a37, TP, orc_p, orc_l]
  try simp only [laws_eqSlot, evT, encs, c_js, r_map_some, e_need_t]
  all_goals rfl
theorem e_laws_eqSlotS_l4 (n : Nat) {R1} {a : List Slot} {R2} {b : List Slot} (i : Int) [H1 : EncL cSlot R1 a] [H2 : EncL cSlot R2 b] : LP T (n + 2) 13 4 (frm [(0, .imm 3 R1), (1, .imm 3 R2), (5, .i .i64 i)]) [] =
    lmap (run (laws_eqSlotS_l4 a b) i) (fun (r : Bool) => (XE.ret, frm [(4, .b r)], [])) (fun (r : Unit) => (XE.exit 0, frm [], [])) := by
  obtain ⟨rfl⟩ := H1
  obtain ⟨rfl⟩ := H2
  rw [LP_eq]
  simp -dsimp only [↓evA, evB, lpG_eq, Try.func13, Try.f13, a13, TP, Nat.reduceAdd, Nat.reduceMul, Nat.reduceBEq, Nat.reduceLeDiff, Nat.reduceLT]
  refine run_map (fun (s : Int) => (frm [(0, .imm 3 (a.map cSlot)), (1, .imm 3 (b.map cSlot)), (5, .i .i64 s)], [])) (evO (fun (r : Bool) => (XE.ret, frm [(4, .b r)], [])) (fun (r : Unit) => (XE.exit 0, frm [], []))) ?_ i
  intro i
  simp -dsimp +contextual only [↓evA, evB, evT, tys, encs, Nat.reduceAdd, Nat.reduceMul, Nat.reduceBEq, Nat.reduceLeDiff, Nat.reduceLT, TP, orc_p, orc_l, e_laws_eqSlot]
  try simp only [laws_eqSlotS_l4, evT, encs, c_js, r_map_some, e_need_t]
  all_goals rfl
theorem e_laws_eqSlotS (n : Nat) {R1} {a : List Slot} {R2} {b : List Slot} [H1 : EncL cSlot R1 a] [H2 : EncL cSlot R2 b] : CP T (n + 3) 13 [.imm 3 R1, .imm 3 R2] = (laws_eqSlotS a b).map fun r => .b r := by
  obtain ⟨rfl⟩ := H1
  obtain ⟨rfl⟩ := H2
  rw [CP_eq]
  simp -dsimp +contextual only [↓evA, evB, evT, tys, encs, Nat.reduceAdd, Nat.reduceMul, Nat.reduceBEq, Nat.reduceLeDiff, Nat.reduceLT, Try.func13, Try.f13, a13, TP, orc_p, orc_l, e_laws_eqSlotS_l4]
  try simp only [laws_eqSlotS, evT, encs, c_js, r_map_some, e_need_t]
  all_goals rfl
theorem e_laws_szHitS (n : Nat) {R1} {a : List Hit} (left : Int) [H1 : EncL cHit R1 a] : CP T (n + 1) 16 [.imm 2 R1, .i .i64 left] = (laws_szHitS a left).map fun r => .i .i64 r := by
  obtain ⟨rfl⟩ := H1
  rw [CP_eq]
  simp -dsimp +contextual only [↓evA, evB, evT, tys, encs, Nat.reduceAdd, Nat.reduceMul, Nat.reduceBEq, Nat.reduceLeDiff, Nat.reduceLT, Try.func16, Try.f16, a16, TP, orc_p, orc_l]
  try simp only [laws_szHitS, evT, encs, c_js, r_map_some, e_need_t]
  all_goals rfl
theorem e_laws_toHit (n : Nat) (axHouse : Int) (axThing : Int) : CP T (n + 1) 38 [.agg [.i .i64 axHouse, .i .i64 axThing]] = (laws_toHit (⟨axHouse, axThing⟩ : Hit)).map fun r => .agg (cHit r) := by
  rw [CP_eq]
  simp -dsimp +contextual only [↓evA, evB, evT, tys, encs, Nat.reduceAdd, Nat.reduceMul, Nat.reduceBEq, Nat.reduceLeDiff, Nat.reduceLT, Try.func38, Try.f38, a38, TP, orc_p, orc_l]
  try simp only [laws_toHit, evT, encs, c_js, r_map_some, e_need_t]
  all_goals rfl
theorem e_laws_toHitS_l3 (n : Nat) {R1} {a : List Hit} {R2} {out : List Hit} (i : Int) [H1 : EncL cHit R1 a] [H2 : EncL cHit R2 out] : LP T (n + 2) 18 3 (frm [(0, .imm 2 R1), (3, .sl 0), (4, .i .i64 i)]) [some (Ent.lst 2 R2)] =
    (run (laws_toHitS_l3 a) (out, i)).map (fun (r : (List Hit)) => (XE.exit 0, frm [(3, .sl 0)], [some (Ent.lst 2 (r.map cHit))])) := by
  obtain ⟨rfl⟩ := H1
  obtain ⟨rfl⟩ := H2
  rw [LP_eq]
  simp -dsimp only [↓evA, evB, lpG_eq, Try.func18, Try.f18, a18, TP, Nat.reduceAdd, Nat.reduceMul, Nat.reduceBEq, Nat.reduceLeDiff, Nat.reduceLT]
  refine run_map (fun (s : (List Hit) × Int) => (frm [(0, .imm 2 (a.map cHit)), (3, .sl 0), (4, .i .i64 s.2)], [some (Ent.lst 2 (s.1.map cHit))])) (fun (r : (List Hit)) => (XE.exit 0, frm [(3, .sl 0)], [some (Ent.lst 2 (r.map cHit))])) ?_ (out, i)
  rintro ⟨out, i⟩
  simp -dsimp +contextual only [↓evA, evB, evT, tys, encs, Nat.reduceAdd, Nat.reduceMul, Nat.reduceBEq, Nat.reduceLeDiff, Nat.reduceLT, TP, orc_p, orc_l, e_laws_toHit]
  try simp only [laws_toHitS_l3, evT, encs, c_js, r_map_some, e_need_t]
  all_goals rfl
theorem e_laws_toHitS (n : Nat) {R1} {a : List Hit} [H1 : EncL cHit R1 a] : CP T (n + 3) 18 [.imm 2 R1] = (laws_toHitS a).map fun r => .own 2 (r.map cHit) := by
  obtain ⟨rfl⟩ := H1
  rw [CP_eq]
  simp -dsimp +contextual only [↓evA, evB, evT, tys, encs, Nat.reduceAdd, Nat.reduceMul, Nat.reduceBEq, Nat.reduceLeDiff, Nat.reduceLT, Try.func18, Try.f18, a18, TP, orc_p, orc_l, e_laws_toHitS_l3]
  try simp only [laws_toHitS, evT, encs, c_js, r_map_some, e_need_t]
  all_goals rfl
theorem e_spec_EqualHits_l4 (n : Nat) {R1} {a : List Hit} {R2} {b : List Hit} (i : Int) [H1 : EncL cHit R1 a] [H2 : EncL cHit R2 b] : LP T (n + 1) 17 4 (frm [(0, .imm 2 R1), (1, .imm 2 R2), (5, .i .i64 i)]) [] =
    lmap (run (spec_EqualHits_l4 a b) i) (fun (r : Bool) => (XE.ret, frm [(4, .b r)], [])) (fun (r : Unit) => (XE.exit 0, frm [], [])) := by
  obtain ⟨rfl⟩ := H1
  obtain ⟨rfl⟩ := H2
  rw [LP_eq]
  simp -dsimp only [↓evA, evB, lpG_eq, Try.func17, Try.f17, a17, TP, Nat.reduceAdd, Nat.reduceMul, Nat.reduceBEq, Nat.reduceLeDiff, Nat.reduceLT]
  refine run_map (fun (s : Int) => (frm [(0, .imm 2 (a.map cHit)), (1, .imm 2 (b.map cHit)), (5, .i .i64 s)], [])) (evO (fun (r : Bool) => (XE.ret, frm [(4, .b r)], [])) (fun (r : Unit) => (XE.exit 0, frm [], []))) ?_ i
  intro i
  simp -dsimp +contextual only [↓evA, evB, evT, tys, encs, Nat.reduceAdd, Nat.reduceMul, Nat.reduceBEq, Nat.reduceLeDiff, Nat.reduceLT, TP, orc_p, orc_l]
  try simp only [spec_EqualHits_l4, evT, encs, c_js, r_map_some, e_need_t]
  all_goals rfl
theorem e_spec_EqualHits (n : Nat) {R1} {a : List Hit} {R2} {b : List Hit} [H1 : EncL cHit R1 a] [H2 : EncL cHit R2 b] : CP T (n + 2) 17 [.imm 2 R1, .imm 2 R2] = (spec_EqualHits a b).map fun r => .b r := by
  obtain ⟨rfl⟩ := H1
  obtain ⟨rfl⟩ := H2
  rw [CP_eq]
  simp -dsimp +contextual only [↓evA, evB, evT, tys, encs, Nat.reduceAdd, Nat.reduceMul, Nat.reduceBEq, Nat.reduceLeDiff, Nat.reduceLT, Try.func17, Try.f17, a17, TP, orc_p, orc_l, e_spec_EqualHits_l4]
  try simp only [spec_EqualHits, evT, encs, c_js, r_map_some, e_need_t]
  all_goals rfl
theorem e_slices_Equal_Hit_l4 (n : Nat) {R1} {s1 : List Hit} {R2} {s2 : List Hit} (t12 : Int) (t13 : Int) [H1 : EncL cHit R1 s1] [H2 : EncL cHit R2 s2] : LP T (n + 1) 39 4 (frm [(0, .imm 2 R1), (1, .imm 2 R2), (12, .i .i64 t12), (13, .i .i64 t13)]) [] =
    lmap (run (slices_Equal_Hit_l4 s1 s2 t12) t13) (fun (r : Bool) => (XE.ret, frm [(4, .b r)], [])) (fun (r : Unit) => (XE.exit 0, frm [], [])) := by
  obtain ⟨rfl⟩ := H1
  obtain ⟨rfl⟩ := H2
  rw [LP_eq]
  simp -dsimp only [↓evA, evB, lpG_eq, Try.func39, Try.f39, a39, TP, Nat.reduceAdd, Nat.reduceMul, Nat.reduceBEq, Nat.reduceLeDiff, Nat.reduceLT]
  refine run_map (fun (s : Int) => (frm [(0, .imm 2 (s1.map cHit)), (1, .imm 2 (s2.map cHit)), (12, .i .i64 t12), (13, .i .i64 s)], [])) (evO (fun (r : Bool) => (XE.ret, frm [(4, .b r)], [])) (fun (r : Unit) => (XE.exit 0, frm [], []))) ?_ t13
  intro t13
  simp -dsimp +contextual only [↓evA, evB, evT, tys, encs, Nat.reduceAdd, Nat.reduceMul, Nat.reduceBEq, Nat.reduceLeDiff, Nat.reduceLT, TP, orc_p, orc_l]
  try simp only [slices_Equal_Hit_l4, evT, encs, c_js, r_map_some, e_need_t]
  all_goals rfl
theorem e_slices_Equal_Hit (n : Nat) {R1} {s1 : List Hit} {R2} {s2 : List Hit} [H1 : EncL cHit R1 s1] [H2 : EncL cHit R2 s2] : CP T (n + 2) 39 [.imm 2 R1, .imm 2 R2] = (slices_Equal_Hit s1 s2).map fun r => .b r := by
  obtain ⟨rfl⟩ := H1
  obtain ⟨rfl⟩ := H2
  rw [CP_eq]
  simp -dsimp +contextual only [↓evA, evB, evT, tys, encs, Nat.reduceAdd, Nat.reduceMul, Nat.reduceBEq, Nat.reduceLeDiff, Nat.reduceLT, Try.func39, Try.f39, a39, TP, orc_p, orc_l, e_slices_Equal_Hit_l4]
  try simp only [slices_Equal_Hit, evT, encs, c_js, r_map_some, e_need_t]
  all_goals rfl
theorem e_impl_EqualHits (n : Nat) {R1} {a : List Hit} {R2} {b : List Hit} [H1 : EncL cHit R1 a] [H2 : EncL cHit R2 b] : CP T (n + 3) 19 [.imm 2 R1, .imm 2 R2] = (impl_EqualHits a b).map fun r => .b r := by
  obtain ⟨rfl⟩ := H1
  obtain ⟨rfl⟩ := H2
  rw [CP_eq]
  simp -dsimp +contextual only [↓evA, evB, evT, tys, encs, Nat.reduceAdd, Nat.reduceMul, Nat.reduceBEq, Nat.reduceLeDiff, Nat.reduceLT, Try.func19, Try.f19, a19, TP, orc_p, orc_l, e_slices_Equal_Hit]
  try simp only [impl_EqualHits, evT, encs, c_js, r_map_some, e_need_t]
  all_goals rfl
theorem e_laws_eqHit (n : Nat) (axHouse : Int) (axThing : Int) (bxHouse : Int) (bxThing : Int) : CP T (n + 1) 40 [.agg [.i .i64 axHouse, .i .i64 axThing], .agg [.i .i64 bxHouse, .i .i64 bxThing]] = (laws_eqHit (⟨axHouse, axThing⟩ : Hit) (⟨bxHouse, bxThing⟩ : Hit)).map fun r => .b r := by
  rw [CP_eq]
  simp -dsimp +contextual only [↓evA, evB, evT, tys, encs, Nat.reduceAdd, Nat.reduceMul, Nat.reduceBEq, Nat.reduceLeDiff, Nat.reduceLT, Try.func40, Try.f40, a40, TP, orc_p, orc_l]
  try simp only [laws_eqHit, evT, encs, c_js, r_map_some, e_need_t]
  all_goals rfl
theorem e_laws_eqHitS_l4 (n : Nat) {R1} {a : List Hit} {R2} {b : List Hit} (i : Int) [H1 : EncL cHit R1 a] [H2 : EncL cHit R2 b] : LP T (n + 2) 20 4 (frm [(0, .imm 2 R1), (1, .imm 2 R2), (5, .i .i64 i)]) [] =
    lmap (run (laws_eqHitS_l4 a b) i) (fun (r : Bool) => (XE.ret, frm [(4, .b r)], [])) (fun (r : Unit) => (XE.exit 0, frm [], [])) := by
  obtain ⟨rfl⟩ := H1
  obtain ⟨rfl⟩ := H2
  rw [LP_eq]
  simp -dsimp only [↓evA, evB, lpG_eq, Try.func20, Try.f20, a20, TP, Nat.reduceAdd, Nat.reduceMul, Nat.reduceBEq, Nat.reduceLeDiff, Nat.reduceLT]
  refine run_map (fun (s : Int) => (frm [(0, .imm 2 (a.map cHit)), (1, .imm 2 (b.map cHit)), (5, .i .i64 s)], [])) (evO (fun (r : Bool) => (XE.ret, frm [(4, .b r)], [])) (fun (r : Unit) => (XE.exit 0, frm [], []))) ?_ i
  intro i
  simp -dsimp +contextual only [↓evA, evB, evT, tys, encs, Nat.reduceAdd, Nat.reduceMul, Nat.reduceBEq, Nat.reduceLeDiff, Nat.reduceLT, TP, orc_p, orc_l, e_laws_eqHit]
  try simp only [laws_eqHitS_l4, evT, encs, c_js, r_map_some, e_need_t]
  all_goals rfl
theorem e_laws_eqHitS (n : Nat) {R1} {a : List Hit} {R2} {b : List Hit} [H1 : EncL cHit R1 a] [H2 : EncL cHit R2 b] : CP T (n + 3) 20 [.imm 2 R1, .imm 2 R2] = (laws_eqHitS a b).map fun r => .b r := by
  obtain ⟨rfl⟩ := H1
  obtain ⟨rfl⟩ := H2
  rw [CP_eq]
  simp -dsimp +contextual only [↓evA, evB, evT, tys, encs, Nat.reduceAdd, Nat.reduceMul, Nat.reduceBEq, Nat.reduceLeDiff, Nat.reduceLT, Try.func20, Try.f20, a20, TP, orc_p, orc_l, e_laws_eqHitS_l4]
  try simp only [laws_eqHitS, evT, encs, c_js, r_map_some, e_need_t]
  all_goals rfl
theorem e_laws_FnExactEqualHits (n : Nat) {R1} {aA : List Hit} {R2} {aB : List Hit} [H1 : EncL cHit R1 aA] [H2 : EncL cHit R2 aB] : CP T (n + 4) 5 [.imm 2 R1, .imm 2 R2] = (laws_FnExactEqualHits aA aB).map fun r => .b r := by
  obtain ⟨rfl⟩ := H1
  obtain ⟨rfl⟩ := H2
  rw [CP_eq]
  simp -dsimp +contextual only [↓evA, evB, evT, tys, encs, Nat.reduceAdd, Nat.reduceMul, Nat.reduceBEq, Nat.reduceLeDiff, Nat.reduceLT, Try.func5, Try.f5, a5, TP, orc_p, orc_l, e_laws_szHitS, e_laws_toHitS, e_spec_EqualHits, e_impl_EqualHits, e_laws_eqHitS]
  try simp only [laws_FnExactEqualHits, evT, encs, c_js, r_map_some, e_need_t]
  all_goals rfl
theorem e_laws_szClaimS (n : Nat) {R1} {a : List Claim} (left : Int) [H1 : EncL cClaim R1 a] : CP T (n + 1) 21 [.imm 5 R1, .i .i64 left] = (laws_szClaimS a left).map fun r => .i .i64 r := by
  obtain ⟨rfl⟩ := H1
  rw [CP_eq]
  simp -dsimp +contextual only [↓evA, evB, evT, tys, encs, Nat.reduceAdd, Nat.reduceMul, Nat.reduceBEq, Nat.reduceLeDiff, Nat.reduceLT, Try.func21, Try.f21, a21, TP, orc_p, orc_l]
  try simp only [laws_szClaimS, evT, encs, c_js, r_map_some, e_need_t]
  all_goals rfl
theorem e_laws_toClaim (n : Nat) (axId : Int) (axWho : Int) (axThing : Int) (axAt : Int) (axState : Int) : CP T (n + 1) 41 [.agg [.i .i64 axId, .i .i64 axWho, .i .i64 axThing, .i .i64 axAt, .i .i64 axState]] = (laws_toClaim (⟨axId, axWho, axThing, axAt, axState⟩ : Claim)).map fun r => .agg (cClaim r) := by
  rw [CP_eq]
  simp -dsimp +contextual only [↓evA, evB, evT, tys, encs, Nat.reduceAdd, Nat.reduceMul, Nat.reduceBEq, Nat.reduceLeDiff, Nat.reduceLT, Try.func41, Try.f41, a41, TP, orc_p, orc_l]
  try simp only [laws_toClaim, evT, encs, c_js, r_map_some, e_need_t]
  all_goals rfl
theorem e_laws_toClaimS_l3 (n : Nat) {R1} {a : List Claim} {R2} {out : List Claim} (i : Int) [H1 : EncL cClaim R1 a] [H2 : EncL cClaim R2 out] : LP T (n + 2) 23 3 (frm [(0, .imm 5 R1), (3, .sl 0), (4, .i .i64 i)]) [some (Ent.lst 5 R2)] =
    (run (laws_toClaimS_l3 a) (out, i)).map (fun (r : (List Claim)) => (XE.exit 0, frm [(3, .sl 0)], [some (Ent.lst 5 (r.map cClaim))])) := by
  obtain ⟨rfl⟩ := H1
  obtain ⟨rfl⟩ := H2
  rw [LP_eq]
  simp -dsimp only [↓evA, evB, lpG_eq, Try.func23, Try.f23, a23, TP, Nat.reduceAdd, Nat.reduceMul, Nat.reduceBEq, Nat.reduceLeDiff, Nat.reduceLT]
  refine run_map (fun (s : (List Claim) × Int) => (frm [(0, .imm 5 (a.map cClaim)), (3, .sl 0), (4, .i .i64 s.2)], [some (Ent.lst 5 (s.1.map cClaim))])) (fun (r : (List Claim)) => (XE.exit 0, frm [(3, .sl 0)], [some (Ent.lst 5 (r.map cClaim))])) ?_ (out, i)
  rintro ⟨out, i⟩
  simp -dsimp +contextual only [↓evA, evB, evT, tys, encs, Nat.reduceAdd, Nat.reduceMul, Nat.reduceBEq, Nat.reduceLeDiff, Nat.reduceLT, TP, orc_p, orc_l, e_laws_toClaim]
  try simp only [laws_toClaimS_l3, evT, encs, c_js, r_map_some, e_need_t]
  all_goals rfl
theorem e_laws_toClaimS (n : Nat) {R1} {a : List Claim} [H1 : EncL cClaim R1 a] : CP T (n + 3) 23 [.imm 5 R1] = (laws_toClaimS a).map fun r => .own 5 (r.map cClaim) := by
  obtain ⟨rfl⟩ := H1
  rw [CP_eq]
  simp -dsimp +contextual only [↓evA, evB, evT, tys, encs, Nat.reduceAdd, Nat.reduceMul, Nat.reduceBEq, Nat.reduceLeDiff, Nat.reduceLT, Try.func23, Try.f23, a23, TP, orc_p, orc_l, e_laws_toClaimS_l3]
  try simp only [laws_toClaimS, evT, encs, c_js, r_map_some, e_need_t]
  all_goals rfl
theorem e_spec_OpenClaims_l3 (n : Nat) {R1} {l : List Claim} (vn : Int) (i : Int) [H1 : EncL cClaim R1 l] : LP T (n + 1) 22 3 (frm [(0, .imm 5 R1), (3, .i .i64 vn), (4, .i .i64 i)]) [] =
    (run (spec_OpenClaims_l3 l) (vn, i)).map (fun (r : Int) => (XE.exit 0, frm [(3, .i .i64 r)], [])) := by
  obtain ⟨rfl⟩ := H1
  rw [LP_eq]
  simp -dsimp only [↓evA, evB, lpG_eq, Try.func22, Try.f22, a22, TP, Nat.reduceAdd, Nat.reduceMul, Nat.reduceBEq, Nat.reduceLeDiff, Nat.reduceLT]
  refine run_map (fun (s : Int × Int) => (frm [(0, .imm 5 (l.map cClaim)), (3, .i .i64 s.1), (4, .i .i64 s.2)], [])) (fun (r : Int) => (XE.exit 0, frm [(3, .i .i64 r)], [])) ?_ (vn, i)
  rintro ⟨vn, i⟩
  simp -dsimp +contextual only [↓evA, evB, evT, tys, encs, Nat.reduceAdd, Nat.reduceMul, Nat.reduceBEq, Nat.reduceLeDiff, Nat.reduceLT, TP, orc_p, orc_l]
  try simp only [spec_OpenClaims_l3, evT, encs, c_js, r_map_some, e_need_t]
  all_goals rfl
theorem e_spec_OpenClaims (n : Nat) {R1} {l : List Claim} [H1 : EncL cClaim R1 l] : CP T (n + 2) 22 [.imm 5 R1] = (spec_OpenClaims l).map fun r => .i .i64 r := by
  obtain ⟨rfl⟩ := H1
  rw [CP_eq]
  simp -dsimp +contextual only [↓evA, evB, evT, tys, encs, Nat.reduceAdd, Nat.reduceMul, Nat.reduceBEq, Nat.reduceLeDiff, Nat.reduceLT, Try.func22, Try.f22, a22, TP, orc_p, orc_l, e_spec_OpenClaims_l3]
  try simp only [spec_OpenClaims, evT, encs, c_js, r_map_some, e_need_t]
  all_goals rfl
theorem e_impl_OpenClaims_l3 (n : Nat) (vn : Int) {R1} {t6 : List Claim} (t7 : Int) (t8 : Int) [H1 : EncL cClaim R1 t6] : LP T (n + 1) 24 3 (frm [(3, .i .i64 vn), (6, .imm 5 R1), (7, .i .i64 t7), (8, .i .i64 t8)]) [] =
    (run (impl_OpenClaims_l3 t6 t7) (vn, t8)).map (fun (r : Int) => (XE.exit 0, frm [(3, .i .i64 r)], [])) := by
  obtain ⟨rfl⟩ := H1
  rw [LP_eq]
  simp -dsimp only [↓evA, evB, lpG_eq, Try.func24, Try.f24, a24, TP, Nat.reduceAdd, Nat.reduceMul, Nat.reduceBEq, Nat.reduceLeDiff, Nat.reduceLT]
  refine run_map (fun (s : Int × Int) => (frm [(3, .i .i64 s.1), (6, .imm 5 (t6.map cClaim)), (7, .i .i64 t7), (8, .i .i64 s.2)], [])) (fun (r : Int) => (XE.exit 0, frm [(3, .i .i64 r)], [])) ?_ (vn, t8)
  rintro ⟨vn, t8⟩
  simp -dsimp +contextual only [↓evA, evB, evT, tys, encs, Nat.reduceAdd, Nat.reduceMul, Nat.reduceBEq, Nat.reduceLeDiff, Nat.reduceLT, TP, orc_p, orc_l]
  try simp only [impl_OpenClaims_l3, evT, encs, c_js, r_map_some, e_need_t]
  all_goals rfl
theorem e_impl_OpenClaims (n : Nat) {R1} {l : List Claim} [H1 : EncL cClaim R1 l] : CP T (n + 2) 24 [.imm 5 R1] = (impl_OpenClaims l).map fun r => .i .i64 r := by
  obtain ⟨rfl⟩ := H1
  rw [CP_eq]
  simp -dsimp +contextual only [↓evA, evB, evT, tys, encs, Nat.reduceAdd, Nat.reduceMul, Nat.reduceBEq, Nat.reduceLeDiff, Nat.reduceLT, Try.func24, Try.f24, a24, TP, orc_p, orc_l, e_impl_OpenClaims_l3]
  try simp only [impl_OpenClaims, evT, encs, c_js, r_map_some, e_need_t]
  all_goals rfl
theorem e_laws_eqClaim (n : Nat) (axId : Int) (axWho : Int) (axThing : Int) (axAt : Int) (axState : Int) (bxId : Int) (bxWho : Int) (bxThing : Int) (bxAt : Int) (bxState : Int) : CP T (n + 1) 42 [.agg [.i .i64 axId, .i .i64 axWho, .i .i64 axThing, .i .i64 axAt, .i .i64 axState], .agg [.i .i64 bxId, .i .i64 bxWho, .i .i64 bxThing, .i .i64 bxAt, .i .i64 bxState]] = (laws_eqClaim (⟨axId, axWho, axThing, axAt, axState⟩ : Claim) (⟨bxId, bxWho, bxThing, bxAt, bxState⟩ : Claim)).map fun r => .b r := by
  rw [CP_eq]
  simp -dsimp +contextual only [↓evA, evB, evT, tys, encs, Nat.reduceAdd, Nat.reduceMul, Nat.reduceBEq, Nat.reduceLeDiff, Nat.reduceLT, Try.func42, Try.f42, a42, TP, orc_p, orc_l]
  try simp only [laws_eqClaim, evT, encs, c_js, r_map_some, e_need_t]
  all_goals rfl
theorem e_laws_eqClaimS_l4 (n : Nat) {R1} {a : List Claim} {R2} {b : List Claim} (i : Int) [H1 : EncL cClaim R1 a] [H2 : EncL cClaim R2 b] : LP T (n + 2) 25 4 (frm [(0, .imm 5 R1), (1, .imm 5 R2), (5, .i .i64 i)]) [] =
    lmap (run (laws_eqClaimS_l4 a b) i) (fun (r : Bool) => (XE.ret, frm [(4, .b r)], [])) (fun (r : Unit) => (XE.exit 0, frm [], [])) := by
  obtain ⟨rfl⟩ := H1
  obtain ⟨rfl⟩ := H2
  rw [LP_eq]
  simp -dsimp only [↓evA, evB, lpG_eq, Try.func25, Try.f25, a25, TP, Nat.reduceAdd, Nat.reduceMul, Nat.reduceBEq, Nat.reduceLeDiff, Nat.reduceLT]
  refine run_map (fun (s : Int) => (frm [(0, .imm 5 (a.map cClaim)), (1, .imm 5 (b.map cClaim)), (5, .i .i64 s)], [])) (evO (fun (r : Bool) => (XE.ret, frm [(4, .b r)], [])) (fun (r : Unit) => (XE.exit 0, frm [], []))) ?_ i
  intro i
  simp -dsimp +contextual only [↓evA, evB, evT, tys, encs, Nat.reduceAdd, Nat.reduceMul, Nat.reduceBEq, Nat.reduceLeDiff, Nat.reduceLT, TP, orc_p, orc_l, e_laws_eqClaim]
  try simp only [laws_eqClaimS_l4, evT, encs, c_js, r_map_some, e_need_t]
  all_goals rfl
theorem e_laws_eqClaimS (n : Nat) {R1} {a : List Claim} {R2} {b : List Claim} [H1 : EncL cClaim R1 a] [H2 : EncL cClaim R2 b] : CP T (n + 3) 25 [.imm 5 R1, .imm 5 R2] = (laws_eqClaimS a b).map fun r => .b r := by
  obtain ⟨rfl⟩ := H1
  obtain ⟨rfl⟩ := H2
  rw [CP_eq]
  simp -dsimp +contextual only [↓evA, evB, evT, tys, encs, Nat.reduceAdd, Nat.reduceMul, Nat.reduceBEq, Nat.reduceLeDiff, Nat.reduceLT, Try.func25, Try.f25, a25, TP, orc_p, orc_l, e_laws_eqClaimS_l4]
  try simp only [laws_eqClaimS, evT, encs, c_js, r_map_some, e_need_t]
  all_goals rfl
theorem e_laws_FnExactOpenClaims (n : Nat) {R1} {aL : List Claim} [H1 : EncL cClaim R1 aL] : CP T (n + 4) 6 [.imm 5 R1] = (laws_FnExactOpenClaims aL).map fun r => .b r := by
  obtain ⟨rfl⟩ := H1
  rw [CP_eq]
  simp -dsimp +contextual only [↓evA, evB, evT, tys, encs, Nat.reduceAdd, Nat.reduceMul, Nat.reduceBEq, Nat.reduceLeDiff, Nat.reduceLT, Try.func6, Try.f6, a6, TP, orc_p, orc_l, e_laws_szClaimS, e_laws_toClaimS, e_spec_OpenClaims, e_impl_OpenClaims, e_laws_eqClaimS]
  try simp only [laws_FnExactOpenClaims, evT, encs, c_js, r_map_some, e_need_t]
  all_goals rfl
theorem e_laws_szHandS (n : Nat) {R1} {a : List Hand} (left : Int) [H1 : EncL cHand R1 a] : CP T (n + 1) 26 [.imm 5 R1, .i .i64 left] = (laws_szHandS a left).map fun r => .i .i64 r := by
  obtain ⟨rfl⟩ := H1
  rw [CP_eq]
  simp -dsimp +contextual only [↓evA, evB, evT, tys, encs, Nat.reduceAdd, Nat.reduceMul, Nat.reduceBEq, Nat.reduceLeDiff, Nat.reduceLT, Try.func26, Try.f26, a26, TP, orc_p, orc_l]
  try simp only [laws_szHandS, evT, encs, c_js, r_map_some, e_need_t]
  all_goals rfl
theorem e_laws_toHand (n : Nat) (axThing : Int) (axHolder : Int) (axWho : Int) (axAt : Int) (axSeal : Int) : CP T (n + 1) 44 [.agg [.i .i64 axThing, .i .i64 axHolder, .i .i64 axWho, .i .i64 axAt, .i .i64 axSeal]] = (laws_toHand (⟨axThing, axHolder, axWho, axAt, axSeal⟩ : Hand)).map fun r => .agg (cHand r) := by
  rw [CP_eq]
  simp -dsimp +contextual only [↓evA, evB, evT, tys, encs, Nat.reduceAdd, Nat.reduceMul, Nat.reduceBEq, Nat.reduceLeDiff, Nat.reduceLT, Try.func44, Try.f44, a44, TP, orc_p, orc_l]
  try simp only [laws_toHand, evT, encs, c_js, r_map_some, e_need_t]
  all_goals rfl
theorem e_laws_toHandS_l3 (n : Nat) {R1} {a : List Hand} {R2} {out : List Hand} (i : Int) [H1 : EncL cHand R1 a] [H2 : EncL cHand R2 out] : LP T (n + 2) 28 3 (frm [(0, .imm 5 R1), (3, .sl 0), (4, .i .i64 i)]) [some (Ent.lst 5 R2)] =
    (run (laws_toHandS_l3 a) (out, i)).map (fun (r : (List Hand)) => (XE.exit 0, frm [(3, .sl 0)], [some (Ent.lst 5 (r.map cHand))])) := by
  obtain ⟨rfl⟩ := H1
  obtain ⟨rfl⟩ := H2
  rw [LP_eq]
  simp -dsimp only [↓evA, evB, lpG_eq, Try.func28, Try.f28, a28, TP, Nat.reduceAdd, Nat.reduceMul, Nat.reduceBEq, Nat.reduceLeDiff, Nat.reduceLT]
  refine run_map (fun (s : (List Hand) × Int) => (frm [(0, .imm 5 (a.map cHand)), (3, .sl 0), (4, .i .i64 s.2)], [some (Ent.lst 5 (s.1.map cHand))])) (fun (r : (List Hand)) => (XE.exit 0, frm [(3, .sl 0)], [some (Ent.lst 5 (r.map cHand))])) ?_ (out, i)
  rintro ⟨out, i⟩
  simp -dsimp +contextual only [↓evA, evB, evT, tys, encs, Nat.reduceAdd, Nat.reduceMul, Nat.reduceBEq, Nat.reduceLeDiff, Nat.reduceLT, TP, orc_p, orc_l, e_laws_toHand]
  try simp only [laws_toHandS_l3, evT, encs, c_js, r_map_some, e_need_t]
  all_goals rfl
theorem e_laws_toHandS (n : Nat) {R1} {a : List Hand} [H1 : EncL cHand R1 a] : CP T (n + 3) 28 [.imm 5 R1] = (laws_toHandS a).map fun r => .own 5 (r.map cHand) := by
  obtain ⟨rfl⟩ := H1
  rw [CP_eq]
  simp -dsimp +contextual only [↓evA, evB, evT, tys, encs, Nat.reduceAdd, Nat.reduceMul, Nat.reduceBEq, Nat.reduceLeDiff, Nat.reduceLT, Try.func28, Try.f28, a28, TP, orc_p, orc_l, e_laws_toHandS_l3]
  try simp only [laws_toHandS, evT, encs, c_js, r_map_some, e_need_t]
  all_goals rfl
theorem e_spec_HandsOf_l3 (n : Nat) {R1} {l : List Hand} (thing : Int) {R2} {out : List Hand} (i : Int) [H1 : EncL cHand R1 l] [H2 : EncL cHand R2 out] : LP T (n + 1) 43 3 (frm [(0, .imm 5 R1), (1, .i .i64 thing), (5, .sl 0), (6, .i .i64 i)]) [some (Ent.lst 5 R2)] =
    (run (spec_HandsOf_l3 l thing) (out, i)).map (fun (r : (List Hand)) => (XE.exit 0, frm [(5, .sl 0)], [some (Ent.lst 5 (r.map cHand))])) := by
  obtain ⟨rfl⟩ := H1
  obtain ⟨rfl⟩ := H2
  rw [LP_eq]
  simp -dsimp only [↓evA, evB, lpG_eq, Try.func43, Try.f43, a43, TP, Nat.reduceAdd, Nat.reduceMul, Nat.reduceBEq, Nat.reduceLeDiff, Nat.reduceLT]
  refine run_map (fun (s : (List Hand) × Int) => (frm [(0, .imm 5 (l.map cHand)), (1, .i .i64 thing), (5, .sl 0), (6, .i .i64 s.2)], [some (Ent.lst 5 (s.1.map cHand))])) (fun (r : (List Hand)) => (XE.exit 0, frm [(5, .sl 0)], [some (Ent.lst 5 (r.map cHand))])) ?_ (out, i)
  rintro ⟨out, i⟩
  simp -dsimp +contextual only [↓evA, evB, evT, tys, encs, Nat.reduceAdd, Nat.reduceMul, Nat.reduceBEq, Nat.reduceLeDiff, Nat.reduceLT, TP, orc_p, orc_l]
  try simp only [spec_HandsOf_l3, evT, encs, c_js, r_map_some, e_need_t]
  all_goals rfl
theorem e_spec_HandsOf (n : Nat) {R1} {l : List Hand} (thing : Int) [H1 : EncL cHand R1 l] : CP T (n + 2) 43 [.imm 5 R1, .i .i64 thing] = (spec_HandsOf l thing).map fun r => .own 5 (r.map cHand) := by
  obtain ⟨rfl⟩ := H1
  rw [CP_eq]
  simp -dsimp +contextual only [↓evA, evB, evT, tys, encs, Nat.reduceAdd, Nat.reduceMul, Nat.reduceBEq, Nat.reduceLeDiff, Nat.reduceLT, Try.func43, Try.f43, a43, TP, orc_p, orc_l, e_spec_HandsOf_l3]
  try simp only [spec_HandsOf, evT, encs, c_js, r_map_some, e_need_t]
  all_goals rfl
theorem e_spec_TravelCount_l4 (n : Nat) (vn : Int) {R1} {vh : List Hand} (i : Int) [H1 : EncL cHand R1 vh] : LP T (n + 1) 27 4 (frm [(5, .i .i64 vn), (6, .sl 0), (7, .i .i64 i)]) [some (Ent.lst 5 R1)] =
    (run (spec_TravelCount_l4 vh) (vn, i)).map (fun (r : Int) => (XE.exit 0, frm [(5, .i .i64 r)], [])) := by
  obtain ⟨rfl⟩ := H1
  rw [LP_eq]
  simp -dsimp only [↓evA, evB, lpG_eq, Try.func27, Try.f27, a27, TP, Nat.reduceAdd, Nat.reduceMul, Nat.reduceBEq, Nat.reduceLeDiff, Nat.reduceLT]
  refine run_map (fun (s : Int × Int) => (frm [(5, .i .i64 s.1), (6, .sl 0), (7, .i .i64 s.2)], [some (Ent.lst 5 (vh.map cHand))])) (fun (r : Int) => (XE.exit 0, frm [(5, .i .i64 r)], [])) ?_ (vn, i)
  rintro ⟨vn, i⟩
  simp -dsimp +contextual only [↓evA, evB, evT, tys, encs, Nat.reduceAdd, Nat.reduceMul, Nat.reduceBEq, Nat.reduceLeDiff, Nat.reduceLT, TP, orc_p, orc_l]
  try simp only [spec_TravelCount_l4, evT, encs, c_js, r_map_some, e_need_t]
  all_goals rfl
theorem e_spec_TravelCount (n : Nat) {R1} {l : List Hand} (thing : Int) [H1 : EncL cHand R1 l] : CP T (n + 3) 27 [.imm 5 R1, .i .i64 thing] = (spec_TravelCount l thing).map fun r => .i .i64 r := by
  obtain ⟨rfl⟩ := H1
  rw [CP_eq]
  simp -dsimp +contextual only [↓evA, evB, evT, tys, encs, Nat.reduceAdd, Nat.reduceMul, Nat.reduceBEq, Nat.reduceLeDiff, Nat.reduceLT, Try.func27, Try.f27, a27, TP, orc_p, orc_l, e_spec_HandsOf, e_spec_TravelCount_l4]
  try simp only [spec_TravelCount, evT, encs, c_js, r_map_some, e_need_t]
  all_goals rfl
theorem e_impl_HandsOf_l3 (n : Nat) (thing : Int) {R1} {out : List Hand} {R2} {t9 : List Hand} (t10 : Int) (t11 : Int) [H1 : EncL cHand R1 out] [H2 : EncL cHand R2 t9] : LP T (n + 1) 45 3 (frm [(1, .i .i64 thing), (5, .sl 0), (9, .imm 5 R2), (10, .i .i64 t10), (11, .i .i64 t11)]) [some (Ent.lst 5 R1)] =
    (run (impl_HandsOf_l3 thing t9 t10) (out, t11)).map (fun (r : (List Hand)) => (XE.exit 0, frm [(5, .sl 0)], [some (Ent.lst 5 (r.map cHand))])) := by
  obtain ⟨rfl⟩ := H1
  obtain ⟨rfl⟩ := H2
  rw [LP_eq]
  simp -dsimp only [↓evA, evB, lpG_eq, Try.func45, Try.f45, a45, TP, Nat.reduceAdd, Nat.reduceMul, Nat.reduceBEq, Nat.reduceLeDiff, Nat.reduceLT]
  refine run_map (fun (s : (List Hand) × Int) => (frm [(1, .i .i64 thing), (5, .sl 0), (9, .imm 5 (t9.map cHand)), (10, .i .i64 t10), (11, .i .i64 s.2)], [some (Ent.lst 5 (s.1.map cHand))])) (fun (r : (List Hand)) => (XE.exit 0, frm [(5, .sl 0)], [some (Ent.lst 5 (r.map cHand))])) ?_ (out, t11)
  rintro ⟨out, t11⟩
  simp -dsimp +contextual only [↓evA, evB, evT, tys, encs, Nat.reduceAdd, Nat.reduceMul, Nat.reduceBEq, Nat.reduceLeDiff, Nat.reduceLT, TP, orc_p, orc_l]
  try simp only [impl_HandsOf_l3, evT, encs, c_js, r_map_some, e_need_t]
  all_goals rfl
theorem e_impl_HandsOf (n : Nat) {R1} {l : List Hand} (thing : Int) [H1 : EncL cHand R1 l] : CP T (n + 2) 45 [.imm 5 R1, .i .i64 thing] = (impl_HandsOf l thing).map fun r => .own 5 (r.map cHand) := by
  obtain ⟨rfl⟩ := H1
  rw [CP_eq]
  simp -dsimp +contextual only [↓evA, evB, evT, tys, encs, Nat.reduceAdd, Nat.reduceMul, Nat.reduceBEq, Nat.reduceLeDiff, Nat.reduceLT, Try.func45, Try.f45, a45, TP, orc_p, orc_l, e_impl_HandsOf_l3]
  try simp only [impl_HandsOf, evT, encs, c_js, r_map_some, e_need_t]
  all_goals rfl
theorem e_impl_TravelCount_l4 (n : Nat) (vn : Int) {R1} {hands : List Hand} (i : Int) [H1 : EncL cHand R1 hands] : LP T (n + 1) 29 4 (frm [(5, .i .i64 vn), (6, .sl 0), (7, .i .i64 i)]) [some (Ent.lst 5 R1)] =
    (run (impl_TravelCount_l4 hands) (vn, i)).map (fun (r : Int) => (XE.exit 0, frm [(5, .i .i64 r)], [])) := by
  obtain ⟨rfl⟩ := H1
  rw [LP_eq]
  simp -dsimp only [↓evA, evB, lpG_eq, Try.func29, Try.f29, a29, TP, Nat.reduceAdd, Nat.reduceMul, Nat.reduceBEq, Nat.reduceLeDiff, Nat.reduceLT]
  refine run_map (fun (s : Int × Int) => (frm [(5, .i .i64 s.1), (6, .sl 0), (7, .i .i64 s.2)], [some (Ent.lst 5 (hands.map cHand))])) (fun (r : Int) => (XE.exit 0, frm [(5, .i .i64 r)], [])) ?_ (vn, i)
  rintro ⟨vn, i⟩
  simp -dsimp +contextual only [↓evA, evB, evT, tys, encs, Nat.reduceAdd, Nat.reduceMul, Nat.reduceBEq, Nat.reduceLeDiff, Nat.reduceLT, TP, orc_p, orc_l]
  try simp only [impl_TravelCount_l4, evT, encs, c_js, r_map_some, e_need_t]
  all_goals rfl
theorem e_impl_TravelCount (n : Nat) {R1} {l : List Hand} (thing : Int) [H1 : EncL cHand R1 l] : CP T (n + 3) 29 [.imm 5 R1, .i .i64 thing] = (impl_TravelCount l thing).map fun r => .i .i64 r := by
  obtain ⟨rfl⟩ := H1
  rw [CP_eq]
  simp -dsimp +contextual only [↓evA, evB, evT, tys, encs, Nat.reduceAdd, Nat.reduceMul, Nat.reduceBEq, Nat.reduceLeDiff, Nat.reduceLT, Try.func29, Try.f29, a29, TP, orc_p, orc_l, e_impl_HandsOf, e_impl_TravelCount_l4]
  try simp only [impl_TravelCount, evT, encs, c_js, r_map_some, e_need_t]
  all_goals rfl
theorem e_laws_eqHand (n : Nat) (axThing : Int) (axHolder : Int) (axWho : Int) (axAt : Int) (axSeal : Int) (bxThing : Int) (bxHolder : Int) (bxWho : Int) (bxAt : Int) (bxSeal : Int) : CP T (n + 1) 46 [.agg [.i .i64 axThing, .i .i64 axHolder, .i .i64 axWho, .i .i64 axAt, .i .i64 axSeal], .agg [.i .i64 bxThing, .i .i64 bxHolder, .i .i64 bxWho, .i .i64 bxAt, .i .i64 bxSeal]] = (laws_eqHand (⟨axThing, axHolder, axWho, axAt, axSeal⟩ : Hand) (⟨bxThing, bxHolder, bxWho, bxAt, bxSeal⟩ : Hand)).map fun r => .b r := by
  rw [CP_eq]
  simp -dsimp +contextual only [↓evA, evB, evT, tys, encs, Nat.reduceAdd, Nat.reduceMul, Nat.reduceBEq, Nat.reduceLeDiff, Nat.reduceLT, Try.func46, Try.f46, a46, TP, orc_p, orc_l]
  try simp only [laws_eqHand, evT, encs, c_js, r_map_some, e_need_t]
  all_goals rfl
theorem e_laws_eqHandS_l4 (n : Nat) {R1} {a : List Hand} {R2} {b : List Hand} (i : Int) [H1 : EncL cHand R1 a] [H2 : EncL cHand R2 b] : LP T (n + 2) 30 4 (frm [(0, .imm 5 R1), (1, .imm 5 R2), (5, .i .i64 i)]) [] =
    lmap (run (laws_eqHandS_l4 a b) i) (fun (r : Bool) => (XE.ret, frm [(4, .b r)], [])) (fun (r : Unit) => (XE.exit 0, frm [], [])) := by
  obtain ⟨rfl⟩ := H1
  obtain ⟨rfl⟩ := H2
  rw [LP_eq]
  simp -dsimp only [↓evA, evB, lpG_eq, Try.func30, Try.f30, a30, TP, Nat.reduceAdd, Nat.reduceMul, Nat.reduceBEq, Nat.reduceLeDiff, Nat.reduceLT]
  refine run_map (fun (s : Int) => (frm [(0, .imm 5 (a.map cHand)), (1, .imm 5 (b.map cHand)), (5, .i .i64 s)], [])) (evO (fun (r : Bool) => (XE.ret, frm [(4, .b r)], [])) (fun (r : Unit) => (XE.exit 0, frm [], []))) ?_ i
  intro i
  simp -dsimp +contextual only [↓evA, evB, evT, tys, encs, Nat.reduceAdd, Nat.reduceMul, Nat.reduceBEq, Nat.reduceLeDiff, Nat.reduceLT, TP, orc_p, orc_l, e_laws_eqHand]
  try simp only [laws_eqHandS_l4, evT, encs, c_js, r_map_some, e_need_t]
  all_goals rfl
theorem e_laws_eqHandS (n : Nat) {R1} {a : List Hand} {R2} {b : List Hand} [H1 : EncL cHand R1 a] [H2 : EncL cHand R2 b] : CP T (n + 3) 30 [.imm 5 R1, .imm 5 R2] = (laws_eqHandS a b).map fun r => .b r := by
  obtain ⟨rfl⟩ := H1
  obtain ⟨rfl⟩ := H2
  rw [CP_eq]
  simp -dsimp +contextual only [↓evA, evB, evT, tys, encs, Nat.reduceAdd, Nat.reduceMul, Nat.reduceBEq, Nat.reduceLeDiff, Nat.reduceLT, Try.func30, Try.f30, a30, TP, orc_p, orc_l, e_laws_eqHandS_l4]
  try simp only [laws_eqHandS, evT, encs, c_js, r_map_some, e_need_t]
  all_goals rfl
theorem e_laws_FnExactTravelCount (n : Nat) {R1} {aL : List Hand} (aThing : Int) [H1 : EncL cHand R1 aL] : CP T (n + 4) 7 [.imm 5 R1, .i .i64 aThing] = (laws_FnExactTravelCount aL aThing).map fun r => .b r := by
  obtain ⟨rfl⟩ := H1
  rw [CP_eq]
  simp -dsimp +contextual only [↓evA, evB, evT, tys, encs, Nat.reduceAdd, Nat.reduceMul, Nat.reduceBEq, Nat.reduceLeDiff, Nat.reduceLT, Try.func7, Try.f7, a7, TP, orc_p, orc_l, e_laws_szHandS, e_laws_toHandS, e_spec_TravelCount, e_impl_TravelCount, e_laws_eqHandS]
  try simp only [laws_FnExactTravelCount, evT, encs, c_js, r_map_some, e_need_t]
  all_goals rfl
theorem e_laws_szFindS (n : Nat) {R1} {a : List Find} (left : Int) [H1 : EncL cFind R1 a] : CP T (n + 1) 31 [.imm 8 R1, .i .i64 left] = (laws_szFindS a left).map fun r => .i .i64 r := by
  obtain ⟨rfl⟩ := H1
  rw [CP_eq]
  simp -dsimp +contextual only [↓evA, evB, evT, tys, encs, Nat.reduceAdd, Nat.reduceMul, Nat.reduceBEq, Nat.reduceLeDiff, Nat.reduceLT, Try.func31, Try.f31, a31, TP, orc_p, orc_l]
  try simp only [laws_szFindS, evT, encs, c_js, r_map_some, e_need_t]
  all_goals rfl
theorem e_laws_toThing (n : Nat) (axId : Int) (axKind : Int) (axColour : Int) (axSize : Int) (axWorth : Int) : CP T (n + 1) 49 [.agg [.i .i64 axId, .i .i64 axKind, .i .i64 axColour, .i .i64 axSize, .i .i64 axWorth]] = (laws_toThing (⟨axId, axKind, axColour, axSize, axWorth⟩ : Thing)).map fun r => .agg (cThing r) := by
  rw [CP_eq]
  simp -dsimp +contextual only [↓evA, evB, evT, tys, encs, Nat.reduceAdd, Nat.reduceMul, Nat.reduceBEq, Nat.reduceLeDiff, Nat.reduceLT, Try.func49, Try.f49, a49, TP, orc_p, orc_l]
  try simp only [laws_toThing, evT, encs, c_js, r_map_some, e_need_t]
  all_goals rfl
theorem e_laws_toFind (n : Nat) (axThingxId : Int) (axThingxKind : Int) (axThingxColour : Int) (axThingxSize : Int) (axThingxWorth : Int) (axPlace : Int) (axAt : Int) (axFinder : Int) : CP T (n + 2) 47 [.agg [.i .i64 axThingxId, .i .i64 axThingxKind, .i .i64 axThingxColour, .i .i64 axThingxSize, .i .i64 axThingxWorth, .i .i64 axPlace, .i .i64 axAt, .i .i64 axFinder]] = (laws_toFind (⟨⟨axThingxId, axThingxKind, axThingxColour, axThingxSize, axThingxWorth⟩, axPlace, axAt, axFinder⟩ : Find)).map fun r => .agg (cFind r) := by
  rw [CP_eq]
  simp -dsimp +contextual only [↓evA, evB, evT, tys, encs, Nat.reduceAdd, Nat.reduceMul, Nat.reduceBEq, Nat.reduceLeDiff, Nat.reduceLT, Try.func47, Try.f47, a47, TP, orc_p, orc_l, e_laws_toThing]
  try simp only [laws_toFind, evT, encs, c_js, r_map_some, e_need_t]
  all_goals rfl
theorem e_laws_toFindS_l3 (n : Nat) {R1} {a : List Find} {R2} {out : List Find} (i : Int) [H1 : EncL cFind R1 a] [H2 : EncL cFind R2 out] : LP T (n + 3) 33 3 (frm [(0, .imm 8 R1), (3, .sl 0), (4, .i .i64 i)]) [some (Ent.lst 8 R2)] =
    (run (laws_toFindS_l3 a) (out, i)).map (fun (r : (List Find)) => (XE.exit 0, frm [(3, .sl 0)], [some (Ent.lst 8 (r.map cFind))])) := by
  obtain ⟨rfl⟩ := H1
  obtain ⟨rfl⟩ := H2
  rw [LP_eq]
  simp -dsimp only [↓evA, evB, lpG_eq, Try.func33, Try.f33, a33, TP, Nat.reduceAdd, Nat.reduceMul, Nat.reduceBEq, Nat.reduceLeDiff, Nat.reduceLT]
  refine run_map (fun (s : (List Find) × Int) => (frm [(0, .imm 8 (a.map cFind)), (3, .sl 0), (4, .i .i64 s.2)], [some (Ent.lst 8 (s.1.map cFind))])) (fun (r : (List Find)) => (XE.exit 0, frm [(3, .sl 0)], [some (Ent.lst 8 (r.map cFind))])) ?_ (out, i)
  rintro ⟨out, i⟩
  simp -dsimp +contextual only [↓evA, evB, evT, tys, encs, Nat.reduceAdd, Nat.reduceMul, Nat.reduceBEq, Nat.reduceLeDiff, Nat.reduceLT, TP, orc_p, orc_l, e_laws_toFind]
  try simp only [laws_toFindS_l3, evT, encs, c_js, r_map_some, e_need_t]
  all_goals rfl
theorem e_laws_toFindS (n : Nat) {R1} {a : List Find} [H1 : EncL cFind R1 a] : CP T (n + 4) 33 [.imm 8 R1] = (laws_toFindS a).map fun r => .own 8 (r.map cFind) := by
  obtain ⟨rfl⟩ := H1
  rw [CP_eq]
  simp -dsimp +contextual only [↓evA, evB, evT, tys, encs, Nat.reduceAdd, Nat.reduceMul, Nat.reduceBEq, Nat.reduceLeDiff, Nat.reduceLT, Try.func33, Try.f33, a33, TP, orc_p, orc_l, e_laws_toFindS_l3]
  try simp only [laws_toFindS, evT, encs, c_js, r_map_some, e_need_t]
  all_goals rfl
theorem e_spec_CountKind_l3 (n : Nat) {R1} {l : List Find} (kind : Int) (vn : Int) (i : Int) [H1 : EncL cFind R1 l] : LP T (n + 1) 32 3 (frm [(0, .imm 8 R1), (1, .i .i64 kind), (5, .i .i64 vn), (6, .i .i64 i)]) [] =
    (run (spec_CountKind_l3 l kind) (vn, i)).map (fun (r : Int) => (XE.exit 0, frm [(5, .i .i64 r)], [])) := by
  obtain ⟨rfl⟩ := H1
  rw [LP_eq]
  simp -dsimp only [↓evA, evB, lpG_eq, Try.func32, Try.f32, a32, TP, Nat.reduceAdd, Nat.reduceMul, Nat.reduceBEq, Nat.reduceLeDiff, Nat.reduceLT]
  refine run_map (fun (s : Int × Int) => (frm [(0, .imm 8 (l.map cFind)), (1, .i .i64 kind), (5, .i .i64 s.1), (6, .i .i64 s.2)], [])) (fun (r : Int) => (XE.exit 0, frm [(5, .i .i64 r)], [])) ?_ (vn, i)
  rintro ⟨vn, i⟩
  simp -dsimp +contextual only [↓evA, evB, evT, tys, encs, Nat.reduceAdd, Nat.reduceMul, Nat.reduceBEq, Nat.reduceLeDiff, Nat.reduceLT, TP, orc_p, orc_l]
  try simp only [spec_CountKind_l3, evT, encs, c_js, r_map_some, e_need_t]
  all_goals rfl
theorem e_spec_CountKind (n : Nat) {R1} {l : List Find} (kind : Int) [H1 : EncL cFind R1 l] : CP T (n + 2) 32 [.imm 8 R1, .i .i64 kind] = (spec_CountKind l kind).map fun r => .i .i64 r := by
  obtain ⟨rfl⟩ := H1
  rw [CP_eq]
  simp -dsimp +contextual only [↓evA, evB, evT, tys, encs, Nat.reduceAdd, Nat.reduceMul, Nat.reduceBEq, Nat.reduceLeDiff, Nat.reduceLT, Try.func32, Try.f32, a32, TP, orc_p, orc_l, e_spec_CountKind_l3]
  try simp only [spec_CountKind, evT, encs, c_js, r_map_some, e_need_t]
  all_goals rfl
theorem e_impl_CountKind_l3 (n : Nat) (kind : Int) (vn : Int) {R1} {t8 : List Find} (t9 : Int) (t10 : Int) [H1 : EncL cFind R1 t8] : LP T (n + 1) 34 3 (frm [(1, .i .i64 kind), (5, .i .i64 vn), (8, .imm 8 R1), (9, .i .i64 t9), (10, .i .i64 t10)]) [] =
    (run (impl_CountKind_l3 kind t8 t9) (vn, t10)).map (fun (r : Int) => (XE.exit 0, frm [(5, .i .i64 r)], [])) := by
  obtain ⟨rfl⟩ := H1
  rw [LP_eq]
  simp -dsimp only [↓evA, evB, lpG_eq, Try.func34, Try.f34, a34, TP, Nat.reduceAdd, Nat.reduceMul, Nat.reduceBEq, Nat.reduceLeDiff, Nat.reduceLT]
  refine run_map (fun (s : Int × Int) => (frm [(1, .i .i64 kind), (5, .i .i64 s.1), (8, .imm 8 (t8.map cFind)), (9, .i .i64 t9), (10, .i .i64 s.2)], [])) (fun (r : Int) => (XE.exit 0, frm [(5, .i .i64 r)], [])) ?_ (vn, t10)
  rintro ⟨vn, t10⟩
  simp -dsimp +contextual only [↓evA, evB, evT, tys, encs, Nat.reduceAdd, Nat.reduceMul, Nat.reduceBEq, Nat.reduceLeDiff, Nat.reduceLT, TP, orc_p, orc_l]
  try simp only [impl_CountKind_l3, evT, encs, c_js, r_map_some, e_need_t]
  all_goals rfl
theorem e_impl_CountKind (n : Nat) {R1} {l : List Find} (kind : Int) [H1 : EncL cFind R1 l] : CP T (n + 2) 34 [.imm 8 R1, .i .i64 kind] = (impl_CountKind l kind).map fun r => .i .i64 r := by
  obtain ⟨rfl⟩ := H1
  rw [CP_eq]
  simp -dsimp +contextual only [↓evA, evB, evT, tys, encs, Nat.reduceAdd, Nat.reduceMul, Nat.reduceBEq, Nat.reduceLeDiff, Nat.reduceLT, Try.func34, Try.f34, a34, TP, orc_p, orc_l, e_impl_CountKind_l3]
  try simp only [impl_CountKind, evT, encs, c_js, r_map_some, e_need_t]
  all_goals rfl
theorem e_laws_eqThing (n : Nat) (axId : Int) (axKind : Int) (axColour : Int) (axSize : Int) (axWorth : Int) (bxId : Int) (bxKind : Int) (bxColour : Int) (bxSize : Int) (bxWorth : Int) : CP T (n + 1) 50 [.agg [.i .i64 axId, .i .i64 axKind, .i .i64 axColour, .i .i64 axSize, .i .i64 axWorth], .agg [.i .i64 bxId, .i .i64 bxKind, .i .i64 bxColour, .i .i64 bxSize, .i .i64 bxWorth]] = (laws_eqThing (⟨axId, axKind, axColour, axSize, axWorth⟩ : Thing) (⟨bxId, bxKind, bxColour, bxSize, bxWorth⟩ : Thing)).map fun r => .b r := by
  rw [CP_eq]
  simp -dsimp +contextual only [↓evA, evB, evT, tys, encs, Nat.reduceAdd, Nat.reduceMul, Nat.reduceBEq, Nat.reduceLeDiff, Nat.reduceLT, Try.func50, Try.f50, a50, TP, orc_p, orc_l]
  try simp only [laws_eqThing, evT, encs, c_js, r_map_some, e_need_t]
  all_goals rfl
theorem e_laws_eqFind (n : Nat) (axThingxId : Int) (axThingxKind : Int) (axThingxColour : Int) (axThingxSize : Int) (axThingxWorth : Int) (axPlace : Int) (axAt : Int) (axFinder : Int) (bxThingxId : Int) (bxThingxKind : Int) (bxThingxColour : Int) (bxThingxSize : Int) (bxThingxWorth : Int) (bxPlace : Int) (bxAt : Int) (bxFinder : Int) : CP T (n + 2) 48 [.agg [.i .i64 axThingxId, .i .i64 axThingxKind, .i .i64 axThingxColour, .i .i64 axThingxSize, .i .i64 axThingxWorth, .i .i64 axPlace, .i .i64 axAt, .i .i64 axFinder], .agg [.i .i64 bxThingxId, .i .i64 bxThingxKind, .i .i64 bxThingxColour, .i .i64 bxThingxSize, .i .i64 bxThingxWorth, .i .i64 bxPlace, .i .i64 bxAt, .i .i64 bxFinder]] = (laws_eqFind (⟨⟨axThingxId, axThingxKind, axThingxColour, axThingxSize, axThingxWorth⟩, axPlace, axAt, axFinder⟩ : Find) (⟨⟨bxThingxId, bxThingxKind, bxThingxColour, bxThingxSize, bxThingxWorth⟩, bxPlace, bxAt, bxFinder⟩ : Find)).map fun r => .b r := by
  rw [CP_eq]
  simp -dsimp +contextual only [↓evA, evB, evT, tys, encs, Nat.reduceAdd, Nat.reduceMul, Nat.reduceBEq, Nat.reduceLeDiff, Nat.reduceLT, Try.func48, Try.f48, a48, TP, orc_p, orc_l, e_laws_eqThing]
  try simp only [laws_eqFind, evT, encs, c_js, r_map_some, e_need_t]
  all_goals rfl
theorem e_laws_eqFindS_l4 (n : Nat) {R1} {a : List Find} {R2} {b : List Find} (i : Int) [H1 : EncL cFind R1 a] [H2 : EncL cFind R2 b] : LP T (n + 3) 35 4 (frm [(0, .imm 8 R1), (1, .imm 8 R2), (5, .i .i64 i)]) [] =
    lmap (run (laws_eqFindS_l4 a b) i) (fun (r : Bool) => (XE.ret, frm [(4, .b r)], [])) (fun (r : Unit) => (XE.exit 0, frm [], [])) := by
  obtain ⟨rfl⟩ := H1
  obtain ⟨rfl⟩ := H2
  rw [LP_eq]
  simp -dsimp only [↓evA, evB, lpG_eq, Try.func35, Try.f35, a35, TP, Nat.reduceAdd, Nat.reduceMul, Nat.reduceBEq, Nat.reduceLeDiff, Nat.reduceLT]
  refine run_map (fun (s : Int) => (frm [(0, .imm 8 (a.map cFind)), (1, .imm 8 (b.map cFind)), (5, .i .i64 s)], [])) (evO (fun (r : Bool) => (XE.ret, frm [(4, .b r)], [])) (fun (r : Unit) => (XE.exit 0, frm [], []))) ?_ i
  intro i
  simp -dsimp +contextual only [↓evA, evB, evT, tys, encs, Nat.reduceAdd, Nat.reduceMul, Nat.reduceBEq, Nat.reduceLeDiff, Nat.reduceLT, TP, orc_p, orc_l, e_laws_eqFind]
  try simp only [laws_eqFindS_l4, evT, encs, c_js, r_map_some, e_need_t]
  all_goals rfl
theorem e_laws_eqFindS (n : Nat) {R1} {a : List Find} {R2} {b : List Find} [H1 : EncL cFind R1 a] [H2 : EncL cFind R2 b] : CP T (n + 4) 35 [.imm 8 R1, .imm 8 R2] = (laws_eqFindS a b).map fun r => .b r := by
  obtain ⟨rfl⟩ := H1
  obtain ⟨rfl⟩ := H2
  rw [CP_eq]
  simp -dsimp +contextual only [↓evA, evB, evT, tys, encs, Nat.reduceAdd, Nat.reduceMul, Nat.reduceBEq, Nat.reduceLeDiff, Nat.reduceLT, Try.func35, Try.f35, a35, TP, orc_p, orc_l, e_laws_eqFindS_l4]
  try simp only [laws_eqFindS, evT, encs, c_js, r_map_some, e_need_t]
  all_goals rfl
theorem e_laws_FnExactCountKind (n : Nat) {R1} {aL : List Find} (aKind : Int) [H1 : EncL cFind R1 aL] : CP T (n + 5) 8 [.imm 8 R1, .i .i64 aKind] = (laws_FnExactCountKind aL aKind).map fun r => .b r := by
  obtain ⟨rfl⟩ := H1
  rw [CP_eq]
  simp -dsimp +contextual only [↓evA, evB, evT, tys, encs, Nat.reduceAdd, Nat.reduceMul, Nat.reduceBEq, Nat.reduceLeDiff, Nat.reduceLT, Try.func8, Try.f8, a8, TP, orc_p, orc_l, e_laws_szFindS, e_laws_toFindS, e_spec_CountKind, e_impl_CountKind, e_laws_eqFindS]
  try simp only [laws_FnExactCountKind, evT, encs, c_js, r_map_some, e_need_t]
  all_goals rfl
theorem e_laws_heldSlotS_l2 (n : Nat) {R1} {a : List Slot} (k : Int) (i : Int) [H1 : EncL cSlot R1 a] : LP T (n + 1) 15 2 (frm [(0, .imm 3 R1), (1, .i .i64 k), (5, .i .i64 i)]) [] =
    lmap (run (laws_heldSlotS_l2 a) (k, i)) (fun (r : Int) => (XE.ret, frm [(4, .i .i64 r)], [])) (fun (r : Int) => (XE.exit 0, frm [(1, .i .i64 r)], [])) := by
  obtain ⟨rfl⟩ := H1
  rw [LP_eq]
  simp -dsimp only [↓evA, evB, lpG_eq, Try.func15, Try.f15, a15, TP, Nat.reduceAdd, Nat.reduceMul, Nat.reduceBEq, Nat.reduceLeDiff, Nat.reduceLT]
  refine run_map (fun (s : Int × Int) => (frm [(0, .imm 3 (a.map cSlot)), (1, .i .i64 s.1), (5, .i .i64 s.2)], [])) (evO (fun (r : Int) => (XE.ret, frm [(4, .i .i64 r)], [])) (fun (r : Int) => (XE.exit 0, frm [(1, .i .i64 r)], []))) ?_ (k, i)
  rintro ⟨k, i⟩
  simp -dsimp +contextual only [↓evA, evB, evT, tys, encs, Nat.reduceAdd, Nat.reduceMul, Nat.reduceBEq, Nat.reduceLeDiff, Nat.reduceLT, TP, orc_p, orc_l]
  try simp only [laws_heldSlotS_l2, evT, encs, c_js, r_map_some, e_need_t]
  all_goals rfl
theorem e_laws_heldSlotS (n : Nat) {R1} {a : List Slot} (k : Int) [H1 : EncL cSlot R1 a] : CP T (n + 2) 15 [.imm 3 R1, .i .i64 k] = (laws_heldSlotS a k).map fun r => .i .i64 r := by
  obtain ⟨rfl⟩ := H1
  rw [CP_eq]
  simp -dsimp +contextual only [↓evA, evB, evT, tys, encs, Nat.reduceAdd, Nat.reduceMul, Nat.reduceBEq, Nat.reduceLeDiff, Nat.reduceLT, Try.func15, Try.f15, a15, TP, orc_p, orc_l, e_laws_heldSlotS_l2]
  try simp only [laws_heldSlotS, evT, encs, c_js, r_map_some, e_need_t]
  all_goals rfl
end Go.Proofs.Ytbbnecdpcblcfaa
