/- The functions of the program come to the typed ones. No condition. -/
import Derived.Test.YtaajilepbclmfaaDoorEc
namespace Go.Proofs.YtaajilepbclmfaaDoor
open Go Go.Proofs Go.Proofs.YtaajilepbclmfaaDoor.Am
set_option linter.unusedVariables false
set_option linter.unusedSimpArgs false
set_option linter.defProp false
set_option maxRecDepth 100000
theorem e_spec_l1In (n : Nat) (x : Int) (least : Int) (most : Int) : CP T (n + 1) 41 [.i .i64 x, .i .i64 least, .i .i64 most] = (spec_l1In x least most).map fun r => .b r := by
  rw [CP_eq]
  simp -dsimp +contextual only [↓evA, evB, evT, tys, encs, Nat.reduceAdd, Nat.reduceMul, Nat.reduceBEq, Nat.reduceLeDiff, Nat.reduceLT, Tryd.func41, Tryd.f41, a41, TP, orc_p, orc_l]
  try simp only [spec_l1In, evT, encs, c_js, r_map_some, e_need_t]
  all_goals rfl
theorem e_spec_FormatInt_l5 (n : Nat) (vn : Int) (s : List UInt8) (x : Int) : LP T (n + 1) 42 5 (frm [(0, .i .i64 vn), (3, .s s), (4, .i .i64 x)]) [] =
    (run (spec_FormatInt_l5 vn) (s, x)).map (fun (zr : (List UInt8)) => (XE.exit 0, frm [(0, .i .i64 vn), (3, .s zr)], [])) := by
  rw [LP_eq]
  simp -dsimp only [↓evA, evB, lpG_eq, Tryd.func42, Tryd.f42, a42, TP, Nat.reduceAdd, Nat.reduceMul, Nat.reduceBEq, Nat.reduceLeDiff, Nat.reduceLT]
  refine run_map (fun (zs : (List UInt8) × Int) => (frm [(0, .i .i64 vn), (3, .s zs.1), (4, .i .i64 zs.2)], [])) (fun (zr : (List UInt8)) => (XE.exit 0, frm [(0, .i .i64 vn), (3, .s zr)], [])) ?_ (s, x)
  rintro ⟨s, x⟩
  simp -dsimp +contextual only [↓evA, evB, evT, tys, encs, Nat.reduceAdd, Nat.reduceMul, Nat.reduceBEq, Nat.reduceLeDiff, Nat.reduceLT, TP, orc_p, orc_l]
  try simp only [spec_FormatInt_l5, evT, encs, c_js, r_map_some, e_need_t]
  all_goals rfl
theorem e_spec_FormatInt (n : Nat) (vn : Int) : CP T (n + 2) 42 [.i .i64 vn] = (spec_FormatInt vn).map fun r => .s r := by
  rw [CP_eq]
  simp -dsimp +contextual only [↓evA, evB, evT, tys, encs, Nat.reduceAdd, Nat.reduceMul, Nat.reduceBEq, Nat.reduceLeDiff, Nat.reduceLT, Tryd.func42, Tryd.f42, a42, TP, orc_p, orc_l, e_spec_FormatInt_l5]
  try simp only [spec_FormatInt, evT, encs, c_js, r_map_some, e_need_t]
  all_goals rfl
theorem e_spec_FormatCents (n : Nat) (cents : Int) : CP T (n + 3) 10 [.i .i64 cents] = (spec_FormatCents cents).map fun r => .s r := by
  rw [CP_eq]
  simp -dsimp +contextual only [↓evA, evB, evT, tys, encs, Nat.reduceAdd, Nat.reduceMul, Nat.reduceBEq, Nat.reduceLeDiff, Nat.reduceLT, Tryd.func10, Tryd.f10, a10, TP, orc_p, orc_l, e_spec_l1In, e_spec_FormatInt]
  try simp only [spec_FormatCents, evT, encs, c_js, r_map_some, e_need_t]
  all_goals rfl
theorem e_impl_InRange (n : Nat) (vn : Int) (low : Int) (high : Int) : CP T (n + 1) 43 [.i .i64 vn, .i .i64 low, .i .i64 high] = (impl_InRange vn low high).map fun r => .b r := by
  rw [CP_eq]
  simp -dsimp +contextual only [↓evA, evB, evT, tys, encs, Nat.reduceAdd, Nat.reduceMul, Nat.reduceBEq, Nat.reduceLeDiff, Nat.reduceLT, Tryd.func43, Tryd.f43, a43, TP, orc_p, orc_l]
  try simp only [impl_InRange, evT, encs, c_js, r_map_some, e_need_t]
  all_goals rfl
theorem e_impl_FormatInt (n : Nat) (vn : Int) : CP T (n + 2) 44 [.i .i64 vn] = (impl_FormatInt vn).map fun r => .s r := by
  rw [CP_eq]
  simp -dsimp +contextual only [↓evA, evB, evT, tys, encs, Nat.reduceAdd, Nat.reduceMul, Nat.reduceBEq, Nat.reduceLeDiff, Nat.reduceLT, Tryd.func44, Tryd.f44, a44, TP, orc_p, orc_l, e_strconv_Itoa]
  try simp only [impl_FormatInt, evT, encs, c_js, r_map_some, e_need_t]
  all_goals rfl
theorem e_impl_FormatCents (n : Nat) (cents : Int) : CP T (n + 3) 11 [.i .i64 cents] = (impl_FormatCents cents).map fun r => .s r := by
  rw [CP_eq]
  simp -dsimp +contextual only [↓evA, evB, evT, tys, encs, Nat.reduceAdd, Nat.reduceMul, Nat.reduceBEq, Nat.reduceLeDiff, Nat.reduceLT, Tryd.func11, Tryd.f11, a11, TP, orc_p, orc_l, e_impl_InRange, e_impl_FormatInt]
  try simp only [impl_FormatCents, evT, encs, c_js, r_map_some, e_need_t]
  all_goals rfl
theorem e_laws_FnExactFormatCents (n : Nat) (aCents : Int) : CP T (n + 4) 3 [.i .i64 aCents] = (laws_FnExactFormatCents aCents).map fun r => .b r := by
  rw [CP_eq]
  simp -dsimp +contextual only [↓evA, evB, evT, tys, encs, Nat.reduceAdd, Nat.reduceMul, Nat.reduceBEq, Nat.reduceLeDiff, Nat.reduceLT, Tryd.func3, Tryd.f3, a3, TP, orc_p, orc_l, e_spec_FormatCents, e_impl_FormatCents]
  try simp only [laws_FnExactFormatCents, evT, encs, c_js, r_map_some, e_need_t]
  all_goals rfl
theorem e_laws_toIntS_l3 (n : Nat) {R1} {a : List Int} {R2} {out : List Int} (i : Int) [H1 : EncL c_i64 R1 a] [H2 : EncL c_i64 R2 out] : LP T (n + 1) 13 3 (frm [(0, .imm 1 R1), (3, .sl 0), (4, .i .i64 i)]) [some (Ent.lst 1 R2)] =
    (run (laws_toIntS_l3 a) (out, i)).map (fun (zr : (List Int)) => (XE.exit 0, frm [(3, .sl 0)], [some (Ent.lst 1 (zr.map c_i64))])) := by
  obtain ⟨rfl⟩ := H1
  obtain ⟨rfl⟩ := H2
  rw [LP_eq]
  simp -dsimp only [↓evA, evB, lpG_eq, Tryd.func13, Tryd.f13, a13, TP, Nat.reduceAdd, Nat.reduceMul, Nat.reduceBEq, Nat.reduceLeDiff, Nat.reduceLT]
  refine run_map (fun (zs : (List Int) × Int) => (frm [(0, .imm 1 (a.map c_i64)), (3, .sl 0), (4, .i .i64 zs.2)], [some (Ent.lst 1 (zs.1.map c_i64))])) (fun (zr : (List Int)) => (XE.exit 0, frm [(3, .sl 0)], [some (Ent.lst 1 (zr.map c_i64))])) ?_ (out, i)
  rintro ⟨out, i⟩
  simp -dsimp +contextual only [↓evA, evB, evT, tys, encs, Nat.reduceAdd, Nat.reduceMul, Nat.reduceBEq, Nat.reduceLeDiff, Nat.reduceLT, TP, orc_p, orc_l]
  try simp only [laws_toIntS_l3, evT, encs, c_js, r_map_some, e_need_t]
  all_goals rfl
theorem e_laws_toIntS (n : Nat) {R1} {a : List Int} [H1 : EncL c_i64 R1 a] : CP T (n + 2) 13 [.imm 1 R1] = (laws_toIntS a).map fun r => .own 1 (r.map c_i64) := by
  obtain ⟨rfl⟩ := H1
  rw [CP_eq]
  simp -dsimp +contextual only [↓evA, evB, evT, tys, encs, Nat.reduceAdd, Nat.reduceMul, Nat.reduceBEq, Nat.reduceLeDiff, Nat.reduceLT, Tryd.func13, Tryd.f13, a13, TP, orc_p, orc_l, e_laws_toIntS_l3]
  try simp only [laws_toIntS, evT, encs, c_js, r_map_some, e_need_t]
  all_goals rfl
theorem e_spec_l39Join_l3 (n : Nat) {R1} {l : List (List UInt8)} (s : List UInt8) (i : Int) [H1 : EncL c_s R1 l] : LP T (n + 1) 45 3 (frm [(0, .imm 1 R1), (3, .s s), (4, .i .i64 i)]) [] =
    (run (spec_l39Join_l3 l) (s, i)).map (fun (zr : (List UInt8)) => (XE.exit 0, frm [(0, .imm 1 (l.map c_s)), (3, .s zr)], [])) := by
  obtain ⟨rfl⟩ := H1
  rw [LP_eq]
  simp -dsimp only [↓evA, evB, lpG_eq, Tryd.func45, Tryd.f45, a45, TP, Nat.reduceAdd, Nat.reduceMul, Nat.reduceBEq, Nat.reduceLeDiff, Nat.reduceLT]
  refine run_map (fun (zs : (List UInt8) × Int) => (frm [(0, .imm 1 (l.map c_s)), (3, .s zs.1), (4, .i .i64 zs.2)], [])) (fun (zr : (List UInt8)) => (XE.exit 0, frm [(0, .imm 1 (l.map c_s)), (3, .s zr)], [])) ?_ (s, i)
  rintro ⟨s, i⟩
  simp -dsimp +contextual only [↓evA, evB, evT, tys, encs, Nat.reduceAdd, Nat.reduceMul, Nat.reduceBEq, Nat.reduceLeDiff, Nat.reduceLT, TP, orc_p, orc_l]
  try simp only [spec_l39Join_l3, evT, encs, c_js, r_map_some, e_need_t]
  all_goals rfl
theorem e_spec_l39Join (n : Nat) {R1} {l : List (List UInt8)} [H1 : EncL c_s R1 l] : CP T (n + 2) 45 [.imm 1 R1] = (spec_l39Join l).map fun r => .s r := by
  obtain ⟨rfl⟩ := H1
  rw [CP_eq]
  simp -dsimp +contextual only [↓evA, evB, evT, tys, encs, Nat.reduceAdd, Nat.reduceMul, Nat.reduceBEq, Nat.reduceLeDiff, Nat.reduceLT, Tryd.func45, Tryd.f45, a45, TP, orc_p, orc_l, e_spec_l39Join_l3]
  try simp only [spec_l39Join, evT, encs, c_js, r_map_some, e_need_t]
  all_goals rfl
theorem e_spec_FormatNumbers_l3 (n : Nat) {R1} {l : List Int} {R2} {out : List (List UInt8)} (i : Int) [H1 : EncL c_i64 R1 l] [H2 : EncL c_s R2 out] : LP T (n + 3) 12 3 (frm [(0, .imm 1 R1), (3, .sl 0), (4, .i .i64 i)]) [some (Ent.lst 1 R2)] =
    (run (spec_FormatNumbers_l3 l) (out, i)).map (fun (zr : (List (List UInt8))) => (XE.exit 0, frm [(3, .sl 0)], [some (Ent.lst 1 (zr.map c_s))])) := by
  obtain ⟨rfl⟩ := H1
  obtain ⟨rfl⟩ := H2
  rw [LP_eq]
  simp -dsimp only [↓evA, evB, lpG_eq, Tryd.func12, Tryd.f12, a12, TP, Nat.reduceAdd, Nat.reduceMul, Nat.reduceBEq, Nat.reduceLeDiff, Nat.reduceLT]
  refine run_map (fun (zs : (List (List UInt8)) × Int) => (frm [(0, .imm 1 (l.map c_i64)), (3, .sl 0), (4, .i .i64 zs.2)], [some (Ent.lst 1 (zs.1.map c_s))])) (fun (zr : (List (List UInt8))) => (XE.exit 0, frm [(3, .sl 0)], [some (Ent.lst 1 (zr.map c_s))])) ?_ (out, i)
  rintro ⟨out, i⟩
  simp -dsimp +contextual only [↓evA, evB, evT, tys, encs, Nat.reduceAdd, Nat.reduceMul, Nat.reduceBEq, Nat.reduceLeDiff, Nat.reduceLT, TP, orc_p, orc_l, e_spec_FormatInt]
  try simp only [spec_FormatNumbers_l3, evT, encs, c_js, r_map_some, e_need_t]
  all_goals rfl
theorem e_spec_FormatNumbers (n : Nat) {R1} {l : List Int} [H1 : EncL c_i64 R1 l] : CP T (n + 4) 12 [.imm 1 R1] = (spec_FormatNumbers l).map fun r => .s r := by
  obtain ⟨rfl⟩ := H1
  rw [CP_eq]
  simp -dsimp +contextual only [↓evA, evB, evT, tys, encs, Nat.reduceAdd, Nat.reduceMul, Nat.reduceBEq, Nat.reduceLeDiff, Nat.reduceLT, Tryd.func12, Tryd.f12, a12, TP, orc_p, orc_l, e_spec_l39Join, e_spec_FormatNumbers_l3]
  try simp only [spec_FormatNumbers, evT, encs, c_js, r_map_some, e_need_t]
  all_goals rfl
theorem e_impl_joined (n : Nat) {R1} {l : List (List UInt8)} [H1 : EncL c_s R1 l] : CP T (n + 2) 46 [.imm 1 R1] = (impl_joined l).map fun r => .s r := by
  obtain ⟨rfl⟩ := H1
  rw [CP_eq]
  simp -dsimp +contextual only [↓evA, evB, evT, tys, encs, Nat.reduceAdd, Nat.reduceMul, Nat.reduceBEq, Nat.reduceLeDiff, Nat.reduceLT, Tryd.func46, Tryd.f46, a46, TP, orc_p, orc_l, e_strings_Join]
  try simp only [impl_joined, evT, encs, c_js, r_map_some, e_need_t]
  all_goals rfl
theorem e_impl_FormatNumbers_l3 (n : Nat) {R1} {out : List (List UInt8)} {R2} {t7 : List Int} (t8 : Int) (t9 : Int) [H1 : EncL c_s R1 out] [H2 : EncL c_i64 R2 t7] : LP T (n + 3) 14 3 (frm [(3, .sl 0), (7, .imm 1 R2), (8, .i .i64 t8), (9, .i .i64 t9)]) [some (Ent.lst 1 R1)] =
    (run (impl_FormatNumbers_l3 t7 t8) (out, t9)).map (fun (zr : (List (List UInt8))) => (XE.exit 0, frm [(3, .sl 0)], [some (Ent.lst 1 (zr.map c_s))])) := by
  obtain ⟨rfl⟩ := H1
  obtain ⟨rfl⟩ := H2
  rw [LP_eq]
  simp -dsimp only [↓evA, evB, lpG_eq, Tryd.func14, Tryd.f14, a14, TP, Nat.reduceAdd, Nat.reduceMul, Nat.reduceBEq, Nat.reduceLeDiff, Nat.reduceLT]
  refine run_map (fun (zs : (List (List UInt8)) × Int) => (frm [(3, .sl 0), (7, .imm 1 (t7.map c_i64)), (8, .i .i64 t8), (9, .i .i64 zs.2)], [some (Ent.lst 1 (zs.1.map c_s))])) (fun (zr : (List (List UInt8))) => (XE.exit 0, frm [(3, .sl 0)], [some (Ent.lst 1 (zr.map c_s))])) ?_ (out, t9)
  rintro ⟨out, t9⟩
  simp -dsimp +contextual only [↓evA, evB, evT, tys, encs, Nat.reduceAdd, Nat.reduceMul, Nat.reduceBEq, Nat.reduceLeDiff, Nat.reduceLT, TP, orc_p, orc_l, e_impl_FormatInt]
  try simp only [impl_FormatNumbers_l3, evT, encs, c_js, r_map_some, e_need_t]
  all_goals rfl
theorem e_impl_FormatNumbers (n : Nat) {R1} {l : List Int} [H1 : EncL c_i64 R1 l] : CP T (n + 4) 14 [.imm 1 R1] = (impl_FormatNumbers l).map fun r => .s r := by
  obtain ⟨rfl⟩ := H1
  rw [CP_eq]
  simp -dsimp +contextual only [↓evA, evB, evT, tys, encs, Nat.reduceAdd, Nat.reduceMul, Nat.reduceBEq, Nat.reduceLeDiff, Nat.reduceLT, Tryd.func14, Tryd.f14, a14, TP, orc_p, orc_l, e_impl_joined, e_impl_FormatNumbers_l3]
  try simp only [impl_FormatNumbers, evT, encs, c_js, r_map_some, e_need_t]
  all_goals rfl
theorem e_laws_eqIntS_l4 (n : Nat) {R1} {a : List Int} {R2} {b : List Int} (i : Int) [H1 : EncL c_i64 R1 a] [H2 : EncL c_i64 R2 b] : LP T (n + 1) 15 4 (frm [(0, .imm 1 R1), (1, .imm 1 R2), (5, .i .i64 i)]) [] =
    lmap (run (laws_eqIntS_l4 a b) i) (fun (zr : Bool) => (XE.ret, frm [(4, .b zr)], [])) (fun (zr : Unit) => (XE.exit 0, frm [], [])) := by
  obtain ⟨rfl⟩ := H1
  obtain ⟨rfl⟩ := H2
  rw [LP_eq]
  simp -dsimp only [↓evA, evB, lpG_eq, Tryd.func15, Tryd.f15, a15, TP, Nat.reduceAdd, Nat.reduceMul, Nat.reduceBEq, Nat.reduceLeDiff, Nat.reduceLT]
  refine run_map (fun (zs : Int) => (frm [(0, .imm 1 (a.map c_i64)), (1, .imm 1 (b.map c_i64)), (5, .i .i64 zs)], [])) (evO (fun (zr : Bool) => (XE.ret, frm [(4, .b zr)], [])) (fun (zr : Unit) => (XE.exit 0, frm [], []))) ?_ i
  intro i
  simp -dsimp +contextual only [↓evA, evB, evT, tys, encs, Nat.reduceAdd, Nat.reduceMul, Nat.reduceBEq, Nat.reduceLeDiff, Nat.reduceLT, TP, orc_p, orc_l]
  try simp only [laws_eqIntS_l4, evT, encs, c_js, r_map_some, e_need_t]
  all_goals rfl
theorem e_laws_eqIntS (n : Nat) {R1} {a : List Int} {R2} {b : List Int} [H1 : EncL c_i64 R1 a] [H2 : EncL c_i64 R2 b] : CP T (n + 2) 15 [.imm 1 R1, .imm 1 R2] = (laws_eqIntS a b).map fun r => .b r := by
  obtain ⟨rfl⟩ := H1
  obtain ⟨rfl⟩ := H2
  rw [CP_eq]
  simp -dsimp +contextual only [↓evA, evB, evT, tys, encs, Nat.reduceAdd, Nat.reduceMul, Nat.reduceBEq, Nat.reduceLeDiff, Nat.reduceLT, Tryd.func15, Tryd.f15, a15, TP, orc_p, orc_l, e_laws_eqIntS_l4]
  try simp only [laws_eqIntS, evT, encs, c_js, r_map_some, e_need_t]
  all_goals rfl
theorem e_laws_FnExactFormatNumbers (n : Nat) {R1} {aL : List Int} [H1 : EncL c_i64 R1 aL] : CP T (n + 5) 4 [.imm 1 R1] = (laws_FnExactFormatNumbers aL).map fun r => .b r := by
  obtain ⟨rfl⟩ := H1
  rw [CP_eq]
  simp -dsimp +contextual only [↓evA, evB, evT, tys, encs, Nat.reduceAdd, Nat.reduceMul, Nat.reduceBEq, Nat.reduceLeDiff, Nat.reduceLT, Tryd.func4, Tryd.f4, a4, TP, orc_p, orc_l, e_laws_toIntS, e_spec_FormatNumbers, e_impl_FormatNumbers, e_laws_eqIntS]
  try simp only [laws_FnExactFormatNumbers, evT, encs, c_js, r_map_some, e_need_t]
  all_goals rfl
theorem e_laws_szHitS (n : Nat) {R1} {a : List Hit} (left : Int) [H1 : EncL cHit R1 a] : CP T (n + 1) 16 [.imm 2 R1, .i .i64 left] = (laws_szHitS a left).map fun r => .i .i64 r := by
  obtain ⟨rfl⟩ := H1
  rw [CP_eq]
  simp -dsimp +contextual only [↓evA, evB, evT, tys, encs, Nat.reduceAdd, Nat.reduceMul, Nat.reduceBEq, Nat.reduceLeDiff, Nat.reduceLT, Tryd.func16, Tryd.f16, a16, TP, orc_p, orc_l]
  try simp only [laws_szHitS, evT, encs, c_js, r_map_some, e_need_t]
  all_goals rfl
theorem e_laws_toHit (n : Nat) (axHouse : Int) (axThing : Int) : CP T (n + 1) 47 [.agg [.i .i64 axHouse, .i .i64 axThing]] = (laws_toHit (⟨axHouse, axThing⟩ : Hit)).map fun r => .agg (cHit r) := by
  rw [CP_eq]
  simp -dsimp +contextual only [↓evA, evB, evT, tys, encs, Nat.reduceAdd, Nat.reduceMul, Nat.reduceBEq, Nat.reduceLeDiff, Nat.reduceLT, Tryd.func47, Tryd.f47, a47, TP, orc_p, orc_l]
  try simp only [laws_toHit, evT, encs, c_js, r_map_some, e_need_t]
  all_goals rfl
theorem e_laws_toHitS_l3 (n : Nat) {R1} {a : List Hit} {R2} {out : List Hit} (i : Int) [H1 : EncL cHit R1 a] [H2 : EncL cHit R2 out] : LP T (n + 2) 18 3 (frm [(0, .imm 2 R1), (3, .sl 0), (4, .i .i64 i)]) [some (Ent.lst 2 R2)] =
    (run (laws_toHitS_l3 a) (out, i)).map (fun (zr : (List Hit)) => (XE.exit 0, frm [(3, .sl 0)], [some (Ent.lst 2 (zr.map cHit))])) := by
  obtain ⟨rfl⟩ := H1
  obtain ⟨rfl⟩ := H2
  rw [LP_eq]
  simp -dsimp only [↓evA, evB, lpG_eq, Tryd.func18, Tryd.f18, a18, TP, Nat.reduceAdd, Nat.reduceMul, Nat.reduceBEq, Nat.reduceLeDiff, Nat.reduceLT]
  refine run_map (fun (zs : (List Hit) × Int) => (frm [(0, .imm 2 (a.map cHit)), (3, .sl 0), (4, .i .i64 zs.2)], [some (Ent.lst 2 (zs.1.map cHit))])) (fun (zr : (List Hit)) => (XE.exit 0, frm [(3, .sl 0)], [some (Ent.lst 2 (zr.map cHit))])) ?_ (out, i)
  rintro ⟨out, i⟩
  simp -dsimp +contextual only [↓evA, evB, evT, tys, encs, Nat.reduceAdd, Nat.reduceMul, Nat.reduceBEq, Nat.reduceLeDiff, Nat.reduceLT, TP, orc_p, orc_l, e_laws_toHit]
  try simp only [laws_toHitS_l3, evT, encs, c_js, r_map_some, e_need_t]
  all_goals rfl
theorem e_laws_toHitS (n : Nat) {R1} {a : List Hit} [H1 : EncL cHit R1 a] : CP T (n + 3) 18 [.imm 2 R1] = (laws_toHitS a).map fun r => .own 2 (r.map cHit) := by
  obtain ⟨rfl⟩ := H1
  rw [CP_eq]
  simp -dsimp +contextual only [↓evA, evB, evT, tys, encs, Nat.reduceAdd, Nat.reduceMul, Nat.reduceBEq, Nat.reduceLeDiff, Nat.reduceLT, Tryd.func18, Tryd.f18, a18, TP, orc_p, orc_l, e_laws_toHitS_l3]
  try simp only [laws_toHitS, evT, encs, c_js, r_map_some, e_need_t]
  all_goals rfl
theorem e_spec_FormatHits_l3 (n : Nat) {R1} {l : List Hit} {R2} {out : List (List UInt8)} (i : Int) [H1 : EncL cHit R1 l] [H2 : EncL c_s R2 out] : LP T (n + 3) 17 3 (frm [(0, .imm 2 R1), (3, .sl 0), (4, .i .i64 i)]) [some (Ent.lst 1 R2)] =
    (run (spec_FormatHits_l3 l) (out, i)).map (fun (zr : (List (List UInt8))) => (XE.exit 0, frm [(3, .sl 0)], [some (Ent.lst 1 (zr.map c_s))])) := by
  obtain ⟨rfl⟩ := H1
  obtain ⟨rfl⟩ := H2
  rw [LP_eq]
  simp -dsimp only [↓evA, evB, lpG_eq, Tryd.func17, Tryd.f17, a17, TP, Nat.reduceAdd, Nat.reduceMul, Nat.reduceBEq, Nat.reduceLeDiff, Nat.reduceLT]
  refine run_map (fun (zs : (List (List UInt8)) × Int) => (frm [(0, .imm 2 (l.map cHit)), (3, .sl 0), (4, .i .i64 zs.2)], [some (Ent.lst 1 (zs.1.map c_s))])) (fun (zr : (List (List UInt8))) => (XE.exit 0, frm [(3, .sl 0)], [some (Ent.lst 1 (zr.map c_s))])) ?_ (out, i)
  rintro ⟨out, i⟩
  simp -dsimp +contextual only [↓evA, evB, evT, tys, encs, Nat.reduceAdd, Nat.reduceMul, Nat.reduceBEq, Nat.reduceLeDiff, Nat.reduceLT, TP, orc_p, orc_l, e_spec_FormatInt]
  try simp only [spec_FormatHits_l3, evT, encs, c_js, r_map_some, e_need_t]
  all_goals rfl
theorem e_spec_FormatHits (n : Nat) {R1} {l : List Hit} [H1 : EncL cHit R1 l] : CP T (n + 4) 17 [.imm 2 R1] = (spec_FormatHits l).map fun r => .s r := by
  obtain ⟨rfl⟩ := H1
  rw [CP_eq]
  simp -dsimp +contextual only [↓evA, evB, evT, tys, encs, Nat.reduceAdd, Nat.reduceMul, Nat.reduceBEq, Nat.reduceLeDiff, Nat.reduceLT, Tryd.func17, Tryd.f17, a17, TP, orc_p, orc_l, e_spec_l39Join, e_spec_FormatHits_l3]
  try simp only [spec_FormatHits, evT, encs, c_js, r_map_some, e_need_t]
  all_goals rfl
theorem e_impl_FormatHits_l3 (n : Nat) {R1} {out : List (List UInt8)} {R2} {t7 : List Hit} (t8 : Int) (t9 : Int) [H1 : EncL c_s R1 out] [H2 : EncL cHit R2 t7] : LP T (n + 3) 19 3 (frm [(3, .sl 0), (7, .imm 2 R2), (8, .i .i64 t8), (9, .i .i64 t9)]) [some (Ent.lst 1 R1)] =
    (run (impl_FormatHits_l3 t7 t8) (out, t9)).map (fun (zr : (List (List UInt8))) => (XE.exit 0, frm [(3, .sl 0)], [some (Ent.lst 1 (zr.map c_s))])) := by
  obtain ⟨rfl⟩ := H1
  obtain ⟨rfl⟩ := H2
  rw [LP_eq]
  simp -dsimp only [↓evA, evB, lpG_eq, Tryd.func19, Tryd.f19, a19, TP, Nat.reduceAdd, Nat.reduceMul, Nat.reduceBEq, Nat.reduceLeDiff, Nat.reduceLT]
  refine run_map (fun (zs : (List (List UInt8)) × Int) => (frm [(3, .sl 0), (7, .imm 2 (t7.map cHit)), (8, .i .i64 t8), (9, .i .i64 zs.2)], [some (Ent.lst 1 (zs.1.map c_s))])) (fun (zr : (List (List UInt8))) => (XE.exit 0, frm [(3, .sl 0)], [some (Ent.lst 1 (zr.map c_s))])) ?_ (out, t9)
  rintro ⟨out, t9⟩
  simp -dsimp +contextual only [↓evA, evB, evT, tys, encs, Nat.reduceAdd, Nat.reduceMul, Nat.reduceBEq, Nat.reduceLeDiff, Nat.reduceLT, TP, orc_p, orc_l, e_impl_FormatInt]
  try simp only [impl_FormatHits_l3, evT, encs, c_js, r_map_some, e_need_t]
  all_goals rfl
theorem e_impl_FormatHits (n : Nat) {R1} {l : List Hit} [H1 : EncL cHit R1 l] : CP T (n + 4) 19 [.imm 2 R1] = (impl_FormatHits l).map fun r => .s r := by
  obtain ⟨rfl⟩ := H1
  rw [CP_eq]
  simp -dsimp +contextual only [↓evA, evB, evT, tys, encs, Nat.reduceAdd, Nat.reduceMul, Nat.reduceBEq, Nat.reduceLeDiff, Nat.reduceLT, Tryd.func19, Tryd.f19, a19, TP, orc_p, orc_l, e_impl_joined, e_impl_FormatHits_l3]
  try simp only [impl_FormatHits, evT, encs, c_js, r_map_some, e_need_t]
  all_goals rfl
theorem e_laws_eqHit (n : Nat) (axHouse : Int) (axThing : Int) (bxHouse : Int) (bxThing : Int) : CP T (n + 1) 48 [.agg [.i .i64 axHouse, .i .i64 axThing], .agg [.i .i64 bxHouse, .i .i64 bxThing]] = (laws_eqHit (⟨axHouse, axThing⟩ : Hit) (⟨bxHouse, bxThing⟩ : Hit)).map fun r => .b r := by
  rw [CP_eq]
  simp -dsimp +contextual only [↓evA, evB, evT, tys, encs, Nat.reduceAdd, Nat.reduceMul, Nat.reduceBEq, Nat.reduceLeDiff, Nat.reduceLT, Tryd.func48, Tryd.f48, a48, TP, orc_p, orc_l]
  try simp only [laws_eqHit, evT, encs, c_js, r_map_some, e_need_t]
  all_goals rfl
theorem e_laws_eqHitS_l4 (n : Nat) {R1} {a : List Hit} {R2} {b : List Hit} (i : Int) [H1 : EncL cHit R1 a] [H2 : EncL cHit R2 b] : LP T (n + 2) 20 4 (frm [(0, .imm 2 R1), (1, .imm 2 R2), (5, .i .i64 i)]) [] =
    lmap (run (laws_eqHitS_l4 a b) i) (fun (zr : Bool) => (XE.ret, frm [(4, .b zr)], [])) (fun (zr : Unit) => (XE.exit 0, frm [], [])) := by
  obtain ⟨rfl⟩ := H1
  obtain ⟨rfl⟩ := H2
  rw [LP_eq]
  simp -dsimp only [↓evA, evB, lpG_eq, Tryd.func20, Tryd.f20, a20, TP, Nat.reduceAdd, Nat.reduceMul, Nat.reduceBEq, Nat.reduceLeDiff, Nat.reduceLT]
  refine run_map (fun (zs : Int) => (frm [(0, .imm 2 (a.map cHit)), (1, .imm 2 (b.map cHit)), (5, .i .i64 zs)], [])) (evO (fun (zr : Bool) => (XE.ret, frm [(4, .b zr)], [])) (fun (zr : Unit) => (XE.exit 0, frm [], []))) ?_ i
  intro i
  simp -dsimp +contextual only [↓evA, evB, evT, tys, encs, Nat.reduceAdd, Nat.reduceMul, Nat.reduceBEq, Nat.reduceLeDiff, Nat.reduceLT, TP, orc_p, orc_l, e_laws_eqHit]
  try simp only [laws_eqHitS_l4, evT, encs, c_js, r_map_some, e_need_t]
  all_goals rfl
theorem e_laws_eqHitS (n : Nat) {R1} {a : List Hit} {R2} {b : List Hit} [H1 : EncL cHit R1 a] [H2 : EncL cHit R2 b] : CP T (n + 3) 20 [.imm 2 R1, .imm 2 R2] = (laws_eqHitS a b).map fun r => .b r := by
  obtain ⟨rfl⟩ := H1
  obtain ⟨rfl⟩ := H2
  rw [CP_eq]
  simp -dsimp +contextual only [↓evA, evB, evT, tys, encs, Nat.reduceAdd, Nat.reduceMul, Nat.reduceBEq, Nat.reduceLeDiff, Nat.reduceLT, Tryd.func20, Tryd.f20, a20, TP, orc_p, orc_l, e_laws_eqHitS_l4]
  try simp only [laws_eqHitS, evT, encs, c_js, r_map_some, e_need_t]
  all_goals rfl
theorem e_laws_FnExactFormatHits (n : Nat) {R1} {aL : List Hit} [H1 : EncL cHit R1 aL] : CP T (n + 5) 5 [.imm 2 R1] = (laws_FnExactFormatHits aL).map fun r => .b r := by
  obtain ⟨rfl⟩ := H1
  rw [CP_eq]
  simp -dsimp +contextual only [↓evA, evB, evT, tys, encs, Nat.reduceAdd, Nat.reduceMul, Nat.reduceBEq, Nat.reduceLeDiff, Nat.reduceLT, Tryd.func5, Tryd.f5, a5, TP, orc_p, orc_l, e_laws_szHitS, e_laws_toHitS, e_spec_FormatHits, e_impl_FormatHits, e_laws_eqHitS]
  try simp only [laws_FnExactFormatHits, evT, encs, c_js, r_map_some, e_need_t]
  all_goals rfl
theorem e_laws_szSlotS (n : Nat) {R1} {a : List Slot} (left : Int) [H1 : EncL cSlot R1 a] : CP T (n + 1) 21 [.imm 3 R1, .i .i64 left] = (laws_szSlotS a left).map fun r => .i .i64 r := by
  obtain ⟨rfl⟩ := H1
  rw [CP_eq]
  simp -dsimp +contextual only [↓evA, evB, evT, tys, encs, Nat.reduceAdd, Nat.reduceMul, Nat.reduceBEq, Nat.reduceLeDiff, Nat.reduceLT, Tryd.func21, Tryd.f21, a21, TP, orc_p, orc_l]
  try simp only [laws_szSlotS, evT, encs, c_js, r_map_some, e_need_t]
  all_goals rfl
theorem e_laws_toSlot (n : Nat) (axId : Int) (axSize : Int) (axThing : Int) : CP T (n + 1) 49 [.agg [.i .i64 axId, .i .i64 axSize, .i .i64 axThing]] = (laws_toSlot (⟨axId, axSize, axThing⟩ : Slot)).map fun r => .agg (cSlot r) := by
  rw [CP_eq]
  simp -dsimp +contextual only [↓evA, evB, evT, tys, encs, Nat.reduceAdd, Nat.reduceMul, Nat.reduceBEq, Nat.reduceLeDiff, Nat.reduceLT, Tryd.func49, Tryd.f49, a49, TP, orc_p, orc_l]
  try simp only [laws_toSlot, evT, encs, c_js, r_map_some, e_need_t]
  all_goals rfl
theorem e_laws_toSlotS_l3 (n : Nat) {R1} {a : List Slot} {R2} {out : List Slot} (i : Int) [H1 : EncL cSlot R1 a] [H2 : EncL cSlot R2 out] : LP T (n + 2) 23 3 (frm [(0, .imm 3 R1), (3, .sl 0), (4, .i .i64 i)]) [some (Ent.lst 3 R2)] =
    (run (laws_toSlotS_l3 a) (out, i)).map (fun (zr : (List Slot)) => (XE.exit 0, frm [(3, .sl 0)], [some (Ent.lst 3 (zr.map cSlot))])) := by
  obtain ⟨rfl⟩ := H1
  obtain ⟨rfl⟩ := H2
  rw [LP_eq]
  simp -dsimp only [↓evA, evB, lpG_eq, Tryd.func23, Tryd.f23, a23, TP, Nat.reduceAdd, Nat.reduceMul, Nat.reduceBEq, Nat.reduceLeDiff, Nat.reduceLT]
  refine run_map (fun (zs : (List Slot) × Int) => (frm [(0, .imm 3 (a.map cSlot)), (3, .sl 0), (4, .i .i64 zs.2)], [some (Ent.lst 3 (zs.1.map cSlot))])) (fun (zr : (List Slot)) => (XE.exit 0, frm [(3, .sl 0)], [some (Ent.lst 3 (zr.map cSlot))])) ?_ (out, i)
  rintro ⟨out, i⟩
  simp -dsimp +contextual only [↓evA, evB, evT, tys, encs, Nat.reduceAdd, Nat.reduceMul, Nat.reduceBEq, Nat.reduceLeDiff, Nat.reduceLT, TP, orc_p, orc_l, e_laws_toSlot]
  try simp only [laws_toSlotS_l3, evT, encs, c_js, r_map_some, e_need_t]
  all_goals rfl
theorem e_laws_toSlotS (n : Nat) {R1} {a : List Slot} [H1 : EncL cSlot R1 a] : CP T (n + 3) 23 [.imm 3 R1] = (laws_toSlotS a).map fun r => .own 3 (r.map cSlot) := by
  obtain ⟨rfl⟩ := H1
  rw [CP_eq]
  simp -dsimp +contextual only [↓evA, evB, evT, tys, encs, Nat.reduceAdd, Nat.reduceMul, Nat.reduceBEq, Nat.reduceLeDiff, Nat.reduceLT, Tryd.func23, Tryd.f23, a23, TP, orc_p, orc_l, e_laws_toSlotS_l3]
  try simp only [laws_toSlotS, evT, encs, c_js, r_map_some, e_need_t]
  all_goals rfl
theorem e_spec_FormatSlots_l3 (n : Nat) {R1} {l : List Slot} {R2} {out : List (List UInt8)} (i : Int) [H1 : EncL cSlot R1 l] [H2 : EncL c_s R2 out] : LP T (n + 3) 22 3 (frm [(0, .imm 3 R1), (3, .sl 0), (4, .i .i64 i)]) [some (Ent.lst 1 R2)] =
    (run (spec_FormatSlots_l3 l) (out, i)).map (fun (zr : (List (List UInt8))) => (XE.exit 0, frm [(3, .sl 0)], [some (Ent.lst 1 (zr.map c_s))])) := by
  obtain ⟨rfl⟩ := H1
  obtain ⟨rfl⟩ := H2
  rw [LP_eq]
  simp -dsimp only [↓evA, evB, lpG_eq, Tryd.func22, Tryd.f22, a22, TP, Nat.reduceAdd, Nat.reduceMul, Nat.reduceBEq, Nat.reduceLeDiff, Nat.reduceLT]
  refine run_map (fun (zs : (List (List UInt8)) × Int) => (frm [(0, .imm 3 (l.map cSlot)), (3, .sl 0), (4, .i .i64 zs.2)], [some (Ent.lst 1 (zs.1.map c_s))])) (fun (zr : (List (List UInt8))) => (XE.exit 0, frm [(3, .sl 0)], [some (Ent.lst 1 (zr.map c_s))])) ?_ (out, i)
  rintro ⟨out, i⟩
  simp -dsimp +contextual only [↓evA, evB, evT, tys, encs, Nat.reduceAdd, Nat.reduceMul, Nat.reduceBEq, Nat.reduceLeDiff, Nat.reduceLT, TP, orc_p, orc_l, e_spec_FormatInt]
  try simp only [spec_FormatSlots_l3, evT, encs, c_js, r_map_some, e_need_t]
  all_goals rfl
theorem e_spec_FormatSlots (n : Nat) {R1} {l : List Slot} [H1 : EncL cSlot R1 l] : CP T (n + 4) 22 [.imm 3 R1] = (spec_FormatSlots l).map fun r => .s r := by
  obtain ⟨rfl⟩ := H1
  rw [CP_eq]
  simp -dsimp +contextual only [↓evA, evB, evT, tys, encs, Nat.reduceAdd, Nat.reduceMul, Nat.reduceBEq, Nat.reduceLeDiff, Nat.reduceLT, Tryd.func22, Tryd.f22, a22, TP, orc_p, orc_l, e_spec_l39Join, e_spec_FormatSlots_l3]
  try simp only [spec_FormatSlots, evT, encs, c_js, r_map_some, e_need_t]
  all_goals rfl
theorem e_impl_FormatSlots_l3 (n : Nat) {R1} {out : List (List UInt8)} {R2} {t8 : List Slot} (t9 : Int) (t10 : Int) [H1 : EncL c_s R1 out] [H2 : EncL cSlot R2 t8] : LP T (n + 3) 24 3 (frm [(3, .sl 0), (8, .imm 3 R2), (9, .i .i64 t9), (10, .i .i64 t10)]) [some (Ent.lst 1 R1)] =
    (run (impl_FormatSlots_l3 t8 t9) (out, t10)).map (fun (zr : (List (List UInt8))) => (XE.exit 0, frm [(3, .sl 0)], [some (Ent.lst 1 (zr.map c_s))])) := by
  obtain ⟨rfl⟩ := H1
  obtain ⟨rfl⟩ := H2
  rw [LP_eq]
  simp -dsimp only [↓evA, evB, lpG_eq, Tryd.func24, Tryd.f24, a24, TP, Nat.reduceAdd, Nat.reduceMul, Nat.reduceBEq, Nat.reduceLeDiff, Nat.reduceLT]
  refine run_map (fun (zs : (List (List UInt8)) × Int) => (frm [(3, .sl 0), (8, .imm 3 (t8.map cSlot)), (9, .i .i64 t9), (10, .i .i64 zs.2)], [some (Ent.lst 1 (zs.1.map c_s))])) (fun (zr : (List (List UInt8))) => (XE.exit 0, frm [(3, .sl 0)], [some (Ent.lst 1 (zr.map c_s))])) ?_ (out, t10)
  rintro ⟨out, t10⟩
  simp -dsimp +contextual only [↓evA, evB, evT, tys, encs, Nat.reduceAdd, Nat.reduceMul, Nat.reduceBEq, Nat.reduceLeDiff, Nat.reduceLT, TP, orc_p, orc_l, e_impl_FormatInt]
  try simp only [impl_FormatSlots_l3, evT, encs, c_js, r_map_some, e_need_t]
  all_goals rfl
theorem e_impl_FormatSlots (n : Nat) {R1} {l : List Slot} [H1 : EncL cSlot R1 l] : CP T (n + 4) 24 [.imm 3 R1] = (impl_FormatSlots l).map fun r => .s r := by
  obtain ⟨rfl⟩ := H1
  rw [CP_eq]
  simp -dsimp +contextual only [↓evA, evB, evT, tys, encs, Nat.reduceAdd, Nat.reduceMul, Nat.reduceBEq, Nat.reduceLeDiff, Nat.reduceLT, Tryd.func24, Tryd.f24, a24, TP, orc_p, orc_l, e_impl_joined, e_impl_FormatSlots_l3]
  try simp only [impl_FormatSlots, evT, encs, c_js, r_map_some, e_need_t]
  all_goals rfl
theorem e_laws_eqSlot (n : Nat) (axId : Int) (axSize : Int) (axThing : Int) (bxId : Int) (bxSize : Int) (bxThing : Int) : CP T (n + 1) 50 [.agg [.i .i64 axId, .i .i64 axSize, .i .i64 axThing], .agg [.i .i64 bxId, .i .i64 bxSize, .i .i64 bxThing]] = (laws_eqSlot (⟨axId, axSize, axThing⟩ : Slot) (⟨bxId, bxSize, bxThing⟩ : Slot)).map fun r => .b r := by
  rw [CP_eq]
  simp -dsimp +contextual only [↓evA, evB, evT, tys, encs, Nat.reduceAdd, Nat.reduceMul, Nat.reduceBEq, Nat.reduceLeDiff, Nat.reduceLT, Tryd.func50, Tryd.f50, a50, TP, orc_p, orc_l]
  try simp only [laws_eqSlot, evT, encs, c_js, r_map_some, e_need_t]
  all_goals rfl
theorem e_laws_eqSlotS_l4 (n : Nat) {R1} {a : List Slot} {R2} {b : List Slot} (i : Int) [H1 : EncL cSlot R1 a] [H2 : EncL cSlot R2 b] : LP T (n + 2) 25 4 (frm [(0, .imm 3 R1), (1, .imm 3 R2), (5, .i .i64 i)]) [] =
    lmap (run (laws_eqSlotS_l4 a b) i) (fun (zr : Bool) => (XE.ret, frm [(4, .b zr)], [])) (fun (zr : Unit) => (XE.exit 0, frm [], [])) := by
  obtain ⟨rfl⟩ := H1
  obtain ⟨rfl⟩ := H2
  rw [LP_eq]
  simp -dsimp only [↓evA, evB, lpG_eq, Tryd.func25, Tryd.f25, a25, TP, Nat.reduceAdd, Nat.reduceMul, Nat.reduceBEq, Nat.reduceLeDiff, Nat.reduceLT]
  refine run_map (fun (zs : Int) => (frm [(0, .imm 3 (a.map cSlot)), (1, .imm 3 (b.map cSlot)), (5, .i .i64 zs)], [])) (evO (fun (zr : Bool) => (XE.ret, frm [(4, .b zr)], [])) (fun (zr : Unit) => (XE.exit 0, frm [], []))) ?_ i
  intro i
  simp -dsimp +contextual only [↓evA, evB, evT, tys, encs, Nat.reduceAdd, Nat.reduceMul, Nat.reduceBEq, Nat.reduceLeDiff, Nat.reduceLT, TP, orc_p, orc_l, e_laws_eqSlot]
  try simp only [laws_eqSlotS_l4, evT, encs, c_js, r_map_some, e_need_t]
  all_goals rfl
theorem e_laws_eqSlotS (n : Nat) {R1} {a : List Slot} {R2} {b : List Slot} [H1 : EncL cSlot R1 a] [H2 : EncL cSlot R2 b] : CP T (n + 3) 25 [.imm 3 R1, .imm 3 R2] = (laws_eqSlotS a b).map fun r => .b r := by
  obtain ⟨rfl⟩ := H1
  obtain ⟨rfl⟩ := H2
  rw [CP_eq]
  simp -dsimp +contextual only [↓evA, evB, evT, tys, encs, Nat.reduceAdd, Nat.reduceMul, Nat.reduceBEq, Nat.reduceLeDiff, Nat.reduceLT, Tryd.func25, Tryd.f25, a25, TP, orc_p, orc_l, e_laws_eqSlotS_l4]
  try simp only [laws_eqSlotS, evT, encs, c_js, r_map_some, e_need_t]
  all_goals rfl
theorem e_laws_FnExactFormatSlots (n : Nat) {R1} {aL : List Slot} [H1 : EncL cSlot R1 aL] : CP T (n + 5) 6 [.imm 3 R1] = (laws_FnExactFormatSlots aL).map fun r => .b r := by
  obtain ⟨rfl⟩ := H1
  rw [CP_eq]
  simp -dsimp +contextual only [↓evA, evB, evT, tys, encs, Nat.reduceAdd, Nat.reduceMul, Nat.reduceBEq, Nat.reduceLeDiff, Nat.reduceLT, Tryd.func6, Tryd.f6, a6, TP, orc_p, orc_l, e_laws_szSlotS, e_laws_toSlotS, e_spec_FormatSlots, e_impl_FormatSlots, e_laws_eqSlotS]
  try simp only [laws_FnExactFormatSlots, evT, encs, c_js, r_map_some, e_need_t]
  all_goals rfl
theorem e_laws_szClaimS (n : Nat) {R1} {a : List Claim} (left : Int) [H1 : EncL cClaim R1 a] : CP T (n + 1) 26 [.imm 5 R1, .i .i64 left] = (laws_szClaimS a left).map fun r => .i .i64 r := by
  obtain ⟨rfl⟩ := H1
  rw [CP_eq]
  simp -dsimp +contextual only [↓evA, evB, evT, tys, encs, Nat.reduceAdd, Nat.reduceMul, Nat.reduceBEq, Nat.reduceLeDiff, Nat.reduceLT, Tryd.func26, Tryd.f26, a26, TP, orc_p, orc_l]
  try simp only [laws_szClaimS, evT, encs, c_js, r_map_some, e_need_t]
  all_goals rfl
theorem e_laws_toClaim (n : Nat) (axId : Int) (axWho : Int) (axThing : Int) (axAt : Int) (axState : Int) : CP T (n + 1) 51 [.agg [.i .i64 axId, .i .i64 axWho, .i .i64 axThing, .i .i64 axAt, .i .i64 axState]] = (laws_toClaim (⟨axId, axWho, axThing, axAt, axState⟩ : Claim)).map fun r => .agg (cClaim r) := by
  rw [CP_eq]
  simp -dsimp +contextual only [↓evA, evB, evT, tys, encs, Nat.reduceAdd, Nat.reduceMul, Nat.reduceBEq, Nat.reduceLeDiff, Nat.reduceLT, Tryd.func51, Tryd.f51, a51, TP, orc_p, orc_l]
  try simp only [laws_toClaim, evT, encs, c_js, r_map_some, e_need_t]
  all_goals rfl
theorem e_laws_toClaimS_l3 (n : Nat) {R1} {a : List Claim} {R2} {out : List Claim} (i : Int) [H1 : EncL cClaim R1 a] [H2 : EncL cClaim R2 out] : LP T (n + 2) 28 3 (frm [(0, .imm 5 R1), (3, .sl 0), (4, .i .i64 i)]) [some (Ent.lst 5 R2)] =
    (run (laws_toClaimS_l3 a) (out, i)).map (fun (zr : (List Claim)) => (XE.exit 0, frm [(3, .sl 0)], [some (Ent.lst 5 (zr.map cClaim))])) := by
  obtain ⟨rfl⟩ := H1
  obtain ⟨rfl⟩ := H2
  rw [LP_eq]
  simp -dsimp only [↓evA, evB, lpG_eq, Tryd.func28, Tryd.f28, a28, TP, Nat.reduceAdd, Nat.reduceMul, Nat.reduceBEq, Nat.reduceLeDiff, Nat.reduceLT]
  refine run_map (fun (zs : (List Claim) × Int) => (frm [(0, .imm 5 (a.map cClaim)), (3, .sl 0), (4, .i .i64 zs.2)], [some (Ent.lst 5 (zs.1.map cClaim))])) (fun (zr : (List Claim)) => (XE.exit 0, frm [(3, .sl 0)], [some (Ent.lst 5 (zr.map cClaim))])) ?_ (out, i)
  rintro ⟨out, i⟩
  simp -dsimp +contextual only [↓evA, evB, evT, tys, encs, Nat.reduceAdd, Nat.reduceMul, Nat.reduceBEq, Nat.reduceLeDiff, Nat.reduceLT, TP, orc_p, orc_l, e_laws_toClaim]
  try simp only [laws_toClaimS_l3, evT, encs, c_js, r_map_some, e_need_t]
  all_goals rfl
theorem e_laws_toClaimS (n : Nat) {R1} {a : List Claim} [H1 : EncL cClaim R1 a] : CP T (n + 3) 28 [.imm 5 R1] = (laws_toClaimS a).map fun r => .own 5 (r.map cClaim) := by
  obtain ⟨rfl⟩ := H1
  rw [CP_eq]
  simp -dsimp +contextual only [↓evA, evB, evT, tys, encs, Nat.reduceAdd, Nat.reduceMul, Nat.reduceBEq, Nat.reduceLeDiff, Nat.reduceLT, Tryd.func28, Tryd.f28, a28, TP, orc_p, orc_l, e_laws_toClaimS_l3]
  try simp only [laws_toClaimS, evT, encs, c_js, r_map_some, e_need_t]
  all_goals rfl
theorem e_spec_FormatClaims_l3 (n : Nat) {R1} {l : List Claim} {R2} {out : List (List UInt8)} (i : Int) [H1 : EncL cClaim R1 l] [H2 : EncL c_s R2 out] : LP T (n + 3) 27 3 (frm [(0, .imm 5 R1), (3, .sl 0), (4, .i .i64 i)]) [some (Ent.lst 1 R2)] =
    (run (spec_FormatClaims_l3 l) (out, i)).map (fun (zr : (List (List UInt8))) => (XE.exit 0, frm [(3, .sl 0)], [some (Ent.lst 1 (zr.map c_s))])) := by
  obtain ⟨rfl⟩ := H1
  obtain ⟨rfl⟩ := H2
  rw [LP_eq]
  simp -dsimp only [↓evA, evB, lpG_eq, Tryd.func27, Tryd.f27, a27, TP, Nat.reduceAdd, Nat.reduceMul, Nat.reduceBEq, Nat.reduceLeDiff, Nat.reduceLT]
  refine run_map (fun (zs : (List (List UInt8)) × Int) => (frm [(0, .imm 5 (l.map cClaim)), (3, .sl 0), (4, .i .i64 zs.2)], [some (Ent.lst 1 (zs.1.map c_s))])) (fun (zr : (List (List UInt8))) => (XE.exit 0, frm [(3, .sl 0)], [some (Ent.lst 1 (zr.map c_s))])) ?_ (out, i)
  rintro ⟨out, i⟩
  simp -dsimp +contextual only [↓evA, evB, evT, tys, encs, Nat.reduceAdd, Nat.reduceMul, Nat.reduceBEq, Nat.reduceLeDiff, Nat.reduceLT, TP, orc_p, orc_l, e_spec_l1In, e_spec_FormatInt]
  try simp only [spec_FormatClaims_l3, evT, encs, c_js, r_map_some, e_need_t]
  all_goals rfl
theorem e_spec_FormatClaims (n : Nat) {R1} {l : List Claim} [H1 : EncL cClaim R1 l] : CP T (n + 4) 27 [.imm 5 R1] = (spec_FormatClaims l).map fun r => .s r := by
  obtain ⟨rfl⟩ := H1
  rw [CP_eq]
  simp -dsimp +contextual only [↓evA, evB, evT, tys, encs, Nat.reduceAdd, Nat.reduceMul, Nat.reduceBEq, Nat.reduceLeDiff, Nat.reduceLT, Tryd.func27, Tryd.f27, a27, TP, orc_p, orc_l, e_spec_l39Join, e_spec_FormatClaims_l3]
  try simp only [spec_FormatClaims, evT, encs, c_js, r_map_some, e_need_t]
  all_goals rfl
theorem e_impl_FormatClaims_l3 (n : Nat) {R1} {out : List (List UInt8)} {R2} {t8 : List Claim} (t9 : Int) (t10 : Int) [H1 : EncL c_s R1 out] [H2 : EncL cClaim R2 t8] : LP T (n + 3) 29 3 (frm [(3, .sl 0), (8, .imm 5 R2), (9, .i .i64 t9), (10, .i .i64 t10)]) [some (Ent.lst 1 R1)] =
    (run (impl_FormatClaims_l3 t8 t9) (out, t10)).map (fun (zr : (List (List UInt8))) => (XE.exit 0, frm [(3, .sl 0)], [some (Ent.lst 1 (zr.map c_s))])) := by
  obtain ⟨rfl⟩ := H1
  obtain ⟨rfl⟩ := H2
  rw [LP_eq]
  simp -dsimp only [↓evA, evB, lpG_eq, Tryd.func29, Tryd.f29, a29, TP, Nat.reduceAdd, Nat.reduceMul, Nat.reduceBEq, Nat.reduceLeDiff, Nat.reduceLT]
  refine run_map (fun (zs : (List (List UInt8)) × Int) => (frm [(3, .sl 0), (8, .imm 5 (t8.map cClaim)), (9, .i .i64 t9), (10, .i .i64 zs.2)], [some (Ent.lst 1 (zs.1.map c_s))])) (fun (zr : (List (List UInt8))) => (XE.exit 0, frm [(3, .sl 0)], [some (Ent.lst 1 (zr.map c_s))])) ?_ (out, t10)
  rintro ⟨out, t10⟩
  simp -dsimp +contextual only [↓evA, evB, evT, tys, encs, Nat.reduceAdd, Nat.reduceMul, Nat.reduceBEq, Nat.reduceLeDiff, Nat.reduceLT, TP, orc_p, orc_l, e_impl_InRange, e_impl_FormatInt]
  try simp only [impl_FormatClaims_l3, evT, encs, c_js, r_map_some, e_need_t]
  all_goals rfl
theorem e_impl_FormatClaims (n : Nat) {R1} {l : List Claim} [H1 : EncL cClaim R1 l] : CP T (n + 4) 29 [.imm 5 R1] = (impl_FormatClaims l).map fun r => .s r := by
  obtain ⟨rfl⟩ := H1
  rw [CP_eq]
  simp -dsimp +contextual only [↓evA, evB, evT, tys, encs, Nat.reduceAdd, Nat.reduceMul, Nat.reduceBEq, Nat.reduceLeDiff, Nat.reduceLT, Tryd.func29, Tryd.f29, a29, TP, orc_p, orc_l, e_impl_joined, e_impl_FormatClaims_l3]
  try simp only [impl_FormatClaims, evT, encs, c_js, r_map_some, e_need_t]
  all_goals rfl
theorem e_laws_eqClaim (n : Nat) (axId : Int) (axWho : Int) (axThing : Int) (axAt : Int) (axState : Int) (bxId : Int) (bxWho : Int) (bxThing : Int) (bxAt : Int) (bxState : Int) : CP T (n + 1) 52 [.agg [.i .i64 axId, .i .i64 axWho, .i .i64 axThing, .i .i64 axAt, .i .i64 axState], .agg [.i .i64 bxId, .i .i64 bxWho, .i .i64 bxThing, .i .i64 bxAt, .i .i64 bxState]] = (laws_eqClaim (⟨axId, axWho, axThing, axAt, axState⟩ : Claim) (⟨bxId, bxWho, bxThing, bxAt, bxState⟩ : Claim)).map fun r => .b r := by
  rw [CP_eq]
  simp -dsimp +contextual only [↓evA, evB, evT, tys, encs, Nat.reduceAdd, Nat.reduceMul, Nat.reduceBEq, Nat.reduceLeDiff, Nat.reduceLT, Tryd.func52, Tryd.f52, a52, TP, orc_p, orc_l]
  try simp only [laws_eqClaim, evT, encs, c_js, r_map_some, e_need_t]
  all_goals rfl
theorem e_laws_eqClaimS_l4 (n : Nat) {R1} {a : List Claim} {R2} {b : List Claim} (i : Int) [H1 : EncL cClaim R1 a] [H2 : EncL cClaim R2 b] : LP T (n + 2) 30 4 (frm [(0, .imm 5 R1), (1, .imm 5 R2), (5, .i .i64 i)]) [] =
    lmap (run (laws_eqClaimS_l4 a b) i) (fun (zr : Bool) => (XE.ret, frm [(4, .b zr)], [])) (fun (zr : Unit) => (XE.exit 0, frm [], [])) := by
  obtain ⟨rfl⟩ := H1
  obtain ⟨rfl⟩ := H2
  rw [LP_eq]
  simp -dsimp only [↓evA, evB, lpG_eq, Tryd.func30, Tryd.f30, a30, TP, Nat.reduceAdd, Nat.reduceMul, Nat.reduceBEq, Nat.reduceLeDiff, Nat.reduceLT]
  refine run_map (fun (zs : Int) => (frm [(0, .imm 5 (a.map cClaim)), (1, .imm 5 (b.map cClaim)), (5, .i .i64 zs)], [])) (evO (fun (zr : Bool) => (XE.ret, frm [(4, .b zr)], [])) (fun (zr : Unit) => (XE.exit 0, frm [], []))) ?_ i
  intro i
  simp -dsimp +contextual only [↓evA, evB, evT, tys, encs, Nat.reduceAdd, Nat.reduceMul, Nat.reduceBEq, Nat.reduceLeDiff, Nat.reduceLT, TP, orc_p, orc_l, e_laws_eqClaim]
  try simp only [laws_eqClaimS_l4, evT, encs, c_js, r_map_some, e_need_t]
  all_goals rfl
theorem e_laws_eqClaimS (n : Nat) {R1} {a : List Claim} {R2} {b : List Claim} [H1 : EncL cClaim R1 a] [H2 : EncL cClaim R2 b] : CP T (n + 3) 30 [.imm 5 R1, .imm 5 R2] = (laws_eqClaimS a b).map fun r => .b r := by
  obtain ⟨rfl⟩ := H1
  obtain ⟨rfl⟩ := H2
  rw [CP_eq]
  simp -dsimp +contextual only [↓evA, evB, evT, tys, encs, Nat.reduceAdd, Nat.reduceMul, Nat.reduceBEq, Nat.reduceLeDiff, Nat.reduceLT, Tryd.func30, Tryd.f30, a30, TP, orc_p, orc_l, e_laws_eqClaimS_l4]
  try simp only [laws_eqClaimS, evT, encs, c_js, r_map_some, e_need_t]
  all_goals rfl
theorem e_laws_FnExactFormatClaims (n : Nat) {R1} {aL : List Claim} [H1 : EncL cClaim R1 aL] : CP T (n + 5) 7 [.imm 5 R1] = (laws_FnExactFormatClaims aL).map fun r => .b r := by
  obtain ⟨rfl⟩ := H1
  rw [CP_eq]
  simp -dsimp +contextual only [↓evA, evB, evT, tys, encs, Nat.reduceAdd, Nat.reduceMul, Nat.reduceBEq, Nat.reduceLeDiff, Nat.reduceLT, Tryd.func7, Tryd.f7, a7, TP, orc_p, orc_l, e_laws_szClaimS, e_laws_toClaimS, e_spec_FormatClaims, e_impl_FormatClaims, e_laws_eqClaimS]
  try simp only [laws_FnExactFormatClaims, evT, encs, c_js, r_map_some, e_need_t]
  all_goals rfl
theorem e_laws_szHandS (n : Nat) {R1} {a : List Hand} (left : Int) [H1 : EncL cHand R1 a] : CP T (n + 1) 31 [.imm 5 R1, .i .i64 left] = (laws_szHandS a left).map fun r => .i .i64 r := by
  obtain ⟨rfl⟩ := H1
  rw [CP_eq]
  simp -dsimp +contextual only [↓evA, evB, evT, tys, encs, Nat.reduceAdd, Nat.reduceMul, Nat.reduceBEq, Nat.reduceLeDiff, Nat.reduceLT, Tryd.func31, Tryd.f31, a31, TP, orc_p, orc_l]
  try simp only [laws_szHandS, evT, encs, c_js, r_map_some, e_need_t]
  all_goals rfl
theorem e_laws_toHand (n : Nat) (axThing : Int) (axHolder : Int) (axWho : Int) (axAt : Int) (axSeal : Int) : CP T (n + 1) 55 [.agg [.i .i64 axThing, .i .i64 axHolder, .i .i64 axWho, .i .i64 axAt, .i .i64 axSeal]] = (laws_toHand (⟨axThing, axHolder, axWho, axAt, axSeal⟩ : Hand)).map fun r => .agg (cHand r) := by
  rw [CP_eq]
  simp -dsimp +contextual only [↓evA, evB, evT, tys, encs, Nat.reduceAdd, Nat.reduceMul, Nat.reduceBEq, Nat.reduceLeDiff, Nat.reduceLT, Tryd.func55, Tryd.f55, a55, TP, orc_p, orc_l]
  try simp only [laws_toHand, evT, encs, c_js, r_map_some, e_need_t]
  all_goals rfl
theorem e_laws_toHandS_l3 (n : Nat) {R1} {a : List Hand} {R2} {out : List Hand} (i : Int) [H1 : EncL cHand R1 a] [H2 : EncL cHand R2 out] : LP T (n + 2) 33 3 (frm [(0, .imm 5 R1), (3, .sl 0), (4, .i .i64 i)]) [some (Ent.lst 5 R2)] =
    (run (laws_toHandS_l3 a) (out, i)).map (fun (zr : (List Hand)) => (XE.exit 0, frm [(3, .sl 0)], [some (Ent.lst 5 (zr.map cHand))])) := by
  obtain ⟨rfl⟩ := H1
  obtain ⟨rfl⟩ := H2
  rw [LP_eq]
  simp -dsimp only [↓evA, evB, lpG_eq, Tryd.func33, Tryd.f33, a33, TP, Nat.reduceAdd, Nat.reduceMul, Nat.reduceBEq, Nat.reduceLeDiff, Nat.reduceLT]
  refine run_map (fun (zs : (List Hand) × Int) => (frm [(0, .imm 5 (a.map cHand)), (3, .sl 0), (4, .i .i64 zs.2)], [some (Ent.lst 5 (zs.1.map cHand))])) (fun (zr : (List Hand)) => (XE.exit 0, frm [(3, .sl 0)], [some (Ent.lst 5 (zr.map cHand))])) ?_ (out, i)
  rintro ⟨out, i⟩
  simp -dsimp +contextual only [↓evA, evB, evT, tys, encs, Nat.reduceAdd, Nat.reduceMul, Nat.reduceBEq, Nat.reduceLeDiff, Nat.reduceLT, TP, orc_p, orc_l, e_laws_toHand]
  try simp only [laws_toHandS_l3, evT, encs, c_js, r_map_some, e_need_t]
  all_goals rfl
theorem e_laws_toHandS (n : Nat) {R1} {a : List Hand} [H1 : EncL cHand R1 a] : CP T (n + 3) 33 [.imm 5 R1] = (laws_toHandS a).map fun r => .own 5 (r.map cHand) := by
  obtain ⟨rfl⟩ := H1
  rw [CP_eq]
  simp -dsimp +contextual only [↓evA, evB, evT, tys, encs, Nat.reduceAdd, Nat.reduceMul, Nat.reduceBEq, Nat.reduceLeDiff, Nat.reduceLT, Tryd.func33, Tryd.f33, a33, TP, orc_p, orc_l, e_laws_toHandS_l3]
  try simp only [laws_toHandS, evT, encs, c_js, r_map_some, e_need_t]
  all_goals rfl
theorem e_spec_HandsOf_l3 (n : Nat) {R1} {l : List Hand} (thing : Int) {R2} {out : List Hand} (i : Int) [H1 : EncL cHand R1 l] [H2 : EncL cHand R2 out] : LP T (n + 1) 53 3 (frm [(0, .imm 5 R1), (1, .i .i64 thing), (5, .sl 0), (6, .i .i64 i)]) [some (Ent.lst 5 R2)] =
    (run (spec_HandsOf_l3 l thing) (out, i)).map (fun (zr : (List Hand)) => (XE.exit 0, frm [(5, .sl 0)], [some (Ent.lst 5 (zr.map cHand))])) := by
  obtain ⟨rfl⟩ := H1
  obtain ⟨rfl⟩ := H2
  rw [LP_eq]
  simp -dsimp only [↓evA, evB, lpG_eq, Tryd.func53, Tryd.f53, a53, TP, Nat.reduceAdd, Nat.reduceMul, Nat.reduceBEq, Nat.reduceLeDiff, Nat.reduceLT]
  refine run_map (fun (zs : (List Hand) × Int) => (frm [(0, .imm 5 (l.map cHand)), (1, .i .i64 thing), (5, .sl 0), (6, .i .i64 zs.2)], [some (Ent.lst 5 (zs.1.map cHand))])) (fun (zr : (List Hand)) => (XE.exit 0, frm [(5, .sl 0)], [some (Ent.lst 5 (zr.map cHand))])) ?_ (out, i)
  rintro ⟨out, i⟩
  simp -dsimp +contextual only [↓evA, evB, evT, tys, encs, Nat.reduceAdd, Nat.reduceMul, Nat.reduceBEq, Nat.reduceLeDiff, Nat.reduceLT, TP, orc_p, orc_l]
  try simp only [spec_HandsOf_l3, evT, encs, c_js, r_map_some, e_need_t]
  all_goals rfl
theorem e_spec_HandsOf (n : Nat) {R1} {l : List Hand} (thing : Int) [H1 : EncL cHand R1 l] : CP T (n + 2) 53 [.imm 5 R1, .i .i64 thing] = (spec_HandsOf l thing).map fun r => .own 5 (r.map cHand) := by
  obtain ⟨rfl⟩ := H1
  rw [CP_eq]
  simp -dsimp +contextual only [↓evA, evB, evT, tys, encs, Nat.reduceAdd, Nat.reduceMul, Nat.reduceBEq, Nat.reduceLeDiff, Nat.reduceLT, Tryd.func53, Tryd.f53, a53, TP, orc_p, orc_l, e_spec_HandsOf_l3]
  try simp only [spec_HandsOf, evT, encs, c_js, r_map_some, e_need_t]
  all_goals rfl
theorem e_spec_HolderText (n : Nat) (holder : Int) : CP T (n + 2) 54 [.i .i64 holder] = (spec_HolderText holder).map fun r => .s r := by
  rw [CP_eq]
  simp -dsimp +contextual only [↓evA, evB, evT, tys, encs, Nat.reduceAdd, Nat.reduceMul, Nat.reduceBEq, Nat.reduceLeDiff, Nat.reduceLT, Tryd.func54, Tryd.f54, a54, TP, orc_p, orc_l, e_spec_l1In]
  try simp only [spec_HolderText, evT, encs, c_js, r_map_some, e_need_t]
  all_goals rfl
theorem e_spec_StoryOf_l4 (n : Nat) (s : List UInt8) {R1} {vh : List Hand} (i : Int) [H1 : EncL cHand R1 vh] : LP T (n + 3) 32 4 (frm [(5, .s s), (6, .sl 0), (7, .i .i64 i)]) [some (Ent.lst 5 R1)] =
    (run (spec_StoryOf_l4 vh) (s, i)).map (fun (zr : (List UInt8)) => (XE.exit 0, frm [(5, .s zr), (6, .sl 0)], [some (Ent.lst 5 (vh.map cHand))])) := by
  obtain ⟨rfl⟩ := H1
  rw [LP_eq]
  simp -dsimp only [↓evA, evB, lpG_eq, Tryd.func32, Tryd.f32, a32, TP, Nat.reduceAdd, Nat.reduceMul, Nat.reduceBEq, Nat.reduceLeDiff, Nat.reduceLT]
  refine run_map (fun (zs : (List UInt8) × Int) => (frm [(5, .s zs.1), (6, .sl 0), (7, .i .i64 zs.2)], [some (Ent.lst 5 (vh.map cHand))])) (fun (zr : (List UInt8)) => (XE.exit 0, frm [(5, .s zr), (6, .sl 0)], [some (Ent.lst 5 (vh.map cHand))])) ?_ (s, i)
  rintro ⟨s, i⟩
  simp -dsimp +contextual only [↓evA, evB, evT, tys, encs, Nat.reduceAdd, Nat.reduceMul, Nat.reduceBEq, Nat.reduceLeDiff, Nat.reduceLT, TP, orc_p, orc_l, e_spec_HolderText, e_spec_FormatInt]
  try simp only [spec_StoryOf_l4, evT, encs, c_js, r_map_some, e_need_t]
  all_goals rfl
theorem e_spec_StoryOf (n : Nat) {R1} {l : List Hand} (thing : Int) [H1 : EncL cHand R1 l] : CP T (n + 4) 32 [.imm 5 R1, .i .i64 thing] = (spec_StoryOf l thing).map fun r => .s r := by
  obtain ⟨rfl⟩ := H1
  rw [CP_eq]
  simp -dsimp +contextual only [↓evA, evB, evT, tys, encs, Nat.reduceAdd, Nat.reduceMul, Nat.reduceBEq, Nat.reduceLeDiff, Nat.reduceLT, Tryd.func32, Tryd.f32, a32, TP, orc_p, orc_l, e_spec_HandsOf, e_spec_StoryOf_l4]
  try simp only [spec_StoryOf, evT, encs, c_js, r_map_some, e_need_t]
  all_goals rfl
theorem e_impl_HandsOf_l3 (n : Nat) (thing : Int) {R1} {out : List Hand} {R2} {t9 : List Hand} (t10 : Int) (t11 : Int) [H1 : EncL cHand R1 out] [H2 : EncL cHand R2 t9] : LP T (n + 1) 56 3 (frm [(1, .i .i64 thing), (5, .sl 0), (9, .imm 5 R2), (10, .i .i64 t10), (11, .i .i64 t11)]) [some (Ent.lst 5 R1)] =
    (run (impl_HandsOf_l3 thing t9 t10) (out, t11)).map (fun (zr : (List Hand)) => (XE.exit 0, frm [(5, .sl 0)], [some (Ent.lst 5 (zr.map cHand))])) := by
  obtain ⟨rfl⟩ := H1
  obtain ⟨rfl⟩ := H2
  rw [LP_eq]
  simp -dsimp only [↓evA, evB, lpG_eq, Tryd.func56, Tryd.f56, a56, TP, Nat.reduceAdd, Nat.reduceMul, Nat.reduceBEq, Nat.reduceLeDiff, Nat.reduceLT]
  refine run_map (fun (zs : (List Hand) × Int) => (frm [(1, .i .i64 thing), (5, .sl 0), (9, .imm 5 (t9.map cHand)), (10, .i .i64 t10), (11, .i .i64 zs.2)], [some (Ent.lst 5 (zs.1.map cHand))])) (fun (zr : (List Hand)) => (XE.exit 0, frm [(5, .sl 0)], [some (Ent.lst 5 (zr.map cHand))])) ?_ (out, t11)
  rintro ⟨out, t11⟩
  simp -dsimp +contextual only [↓evA, evB, evT, tys, encs, Nat.reduceAdd, Nat.reduceMul, Nat.reduceBEq, Nat.reduceLeDiff, Nat.reduceLT, TP, orc_p, orc_l]
  try simp only [impl_HandsOf_l3, evT, encs, c_js, r_map_some, e_need_t]
  all_goals rfl
theorem e_impl_HandsOf (n : Nat) {R1} {l : List Hand} (thing : Int) [H1 : EncL cHand R1 l] : CP T (n + 2) 56 [.imm 5 R1, .i .i64 thing] = (impl_HandsOf l thing).map fun r => .own 5 (r.map cHand) := by
  obtain ⟨rfl⟩ := H1
  rw [CP_eq]
  simp -dsimp +contextual only [↓evA, evB, evT, tys, encs, Nat.reduceAdd, Nat.reduceMul, Nat.reduceBEq, Nat.reduceLeDiff, Nat.reduceLT, Tryd.func56, Tryd.f56, a56, TP, orc_p, orc_l, e_impl_HandsOf_l3]
  try simp only [impl_HandsOf, evT, encs, c_js, r_map_some, e_need_t]
  all_goals rfl
theorem e_impl_HolderText (n : Nat) (holder : Int) : CP T (n + 2) 57 [.i .i64 holder] = (impl_HolderText holder).map fun r => .s r := by
  rw [CP_eq]
  simp -dsimp +contextual only [↓evA, evB, evT, tys, encs, Nat.reduceAdd, Nat.reduceMul, Nat.reduceBEq, Nat.reduceLeDiff, Nat.reduceLT, Tryd.func57, Tryd.f57, a57, TP, orc_p, orc_l, e_impl_InRange]
  try simp only [impl_HolderText, evT, encs, c_js, r_map_some, e_need_t]
  all_goals rfl
theorem e_impl_StoryOf_l3 (n : Nat) {R1} {out : List (List UInt8)} {R2} {t11 : List Hand} (t12 : Int) (t13 : Int) [H1 : EncL c_s R1 out] [H2 : EncL cHand R2 t11] : LP T (n + 3) 34 3 (frm [(5, .sl 0), (11, .sl 1), (12, .i .i64 t12), (13, .i .i64 t13)]) [some (Ent.lst 1 R1), some (Ent.lst 5 R2)] =
    (run (impl_StoryOf_l3 t11 t12) (out, t13)).map (fun (zr : (List (List UInt8))) => (XE.exit 0, frm [(5, .sl 0)], [some (Ent.lst 1 (zr.map c_s))])) := by
  obtain ⟨rfl⟩ := H1
  obtain ⟨rfl⟩ := H2
  rw [LP_eq]
  simp -dsimp only [↓evA, evB, lpG_eq, Tryd.func34, Tryd.f34, a34, TP, Nat.reduceAdd, Nat.reduceMul, Nat.reduceBEq, Nat.reduceLeDiff, Nat.reduceLT]
  refine run_map (fun (zs : (List (List UInt8)) × Int) => (frm [(5, .sl 0), (11, .sl 1), (12, .i .i64 t12), (13, .i .i64 zs.2)], [some (Ent.lst 1 (zs.1.map c_s)), some (Ent.lst 5 (t11.map cHand))])) (fun (zr : (List (List UInt8))) => (XE.exit 0, frm [(5, .sl 0)], [some (Ent.lst 1 (zr.map c_s))])) ?_ (out, t13)
  rintro ⟨out, t13⟩
  simp -dsimp +contextual only [↓evA, evB, evT, tys, encs, Nat.reduceAdd, Nat.reduceMul, Nat.reduceBEq, Nat.reduceLeDiff, Nat.reduceLT, TP, orc_p, orc_l, e_impl_HolderText, e_impl_FormatInt]
  try simp only [impl_StoryOf_l3, evT, encs, c_js, r_map_some, e_need_t]
  all_goals rfl
theorem e_impl_StoryOf (n : Nat) {R1} {l : List Hand} (thing : Int) [H1 : EncL cHand R1 l] : CP T (n + 4) 34 [.imm 5 R1, .i .i64 thing] = (impl_StoryOf l thing).map fun r => .s r := by
  obtain ⟨rfl⟩ := H1
  rw [CP_eq]
  simp -dsimp +contextual only [↓evA, evB, evT, tys, encs, Nat.reduceAdd, Nat.reduceMul, Nat.reduceBEq, Nat.reduceLeDiff, Nat.reduceLT, Tryd.func34, Tryd.f34, a34, TP, orc_p, orc_l, e_impl_HandsOf, e_strings_Join, e_impl_StoryOf_l3]
  try simp only [impl_StoryOf, evT, encs, c_js, r_map_some, e_need_t]
  all_goals rfl
theorem e_laws_eqHand (n : Nat) (axThing : Int) (axHolder : Int) (axWho : Int) (axAt : Int) (axSeal : Int) (bxThing : Int) (bxHolder : Int) (bxWho : Int) (bxAt : Int) (bxSeal : Int) : CP T (n + 1) 59 [.agg [.i .i64 axThing, .i .i64 axHolder, .i .i64 axWho, .i .i64 axAt, .i .i64 axSeal], .agg [.i .i64 bxThing, .i .i64 bxHolder, .i .i64 bxWho, .i .i64 bxAt, .i .i64 bxSeal]] = (laws_eqHand (⟨axThing, axHolder, axWho, axAt, axSeal⟩ : Hand) (⟨bxThing, bxHolder, bxWho, bxAt, bxSeal⟩ : Hand)).map fun r => .b r := by
  rw [CP_eq]
  simp -dsimp +contextual only [↓evA, evB, evT, tys, encs, Nat.reduceAdd, Nat.reduceMul, Nat.reduceBEq, Nat.reduceLeDiff, Nat.reduceLT, Tryd.func59, Tryd.f59, a59, TP, orc_p, orc_l]
  try simp only [laws_eqHand, evT, encs, c_js, r_map_some, e_need_t]
  all_goals rfl
theorem e_laws_eqHandS_l4 (n : Nat) {R1} {a : List Hand} {R2} {b : List Hand} (i : Int) [H1 : EncL cHand R1 a] [H2 : EncL cHand R2 b] : LP T (n + 2) 35 4 (frm [(0, .imm 5 R1), (1, .imm 5 R2), (5, .i .i64 i)]) [] =
    lmap (run (laws_eqHandS_l4 a b) i) (fun (zr : Bool) => (XE.ret, frm [(4, .b zr)], [])) (fun (zr : Unit) => (XE.exit 0, frm [], [])) := by
  obtain ⟨rfl⟩ := H1
  obtain ⟨rfl⟩ := H2
  rw [LP_eq]
  simp -dsimp only [↓evA, evB, lpG_eq, Tryd.func35, Tryd.f35, a35, TP, Nat.reduceAdd, Nat.reduceMul, Nat.reduceBEq, Nat.reduceLeDiff, Nat.reduceLT]
  refine run_map (fun (zs : Int) => (frm [(0, .imm 5 (a.map cHand)), (1, .imm 5 (b.map cHand)), (5, .i .i64 zs)], [])) (evO (fun (zr : Bool) => (XE.ret, frm [(4, .b zr)], [])) (fun (zr : Unit) => (XE.exit 0, frm [], []))) ?_ i
  intro i
  simp -dsimp +contextual only [↓evA, evB, evT, tys, encs, Nat.reduceAdd, Nat.reduceMul, Nat.reduceBEq, Nat.reduceLeDiff, Nat.reduceLT, TP, orc_p, orc_l, e_laws_eqHand]
  try simp only [laws_eqHandS_l4, evT, encs, c_js, r_map_some, e_need_t]
  all_goals rfl
theorem e_laws_eqHandS (n : Nat) {R1} {a : List Hand} {R2} {b : List Hand} [H1 : EncL cHand R1 a] [H2 : EncL cHand R2 b] : CP T (n + 3) 35 [.imm 5 R1, .imm 5 R2] = (laws_eqHandS a b).map fun r => .b r := by
  obtain ⟨rfl⟩ := H1
  obtain ⟨rfl⟩ := H2
  rw [CP_eq]
  simp -dsimp +contextual only [↓evA, evB, evT, tys, encs, Nat.reduceAdd, Nat.reduceMul, Nat.reduceBEq, Nat.reduceLeDiff, Nat.reduceLT, Tryd.func35, Tryd.f35, a35, TP, orc_p, orc_l, e_laws_eqHandS_l4]
  try simp only [laws_eqHandS, evT, encs, c_js, r_map_some, e_need_t]
  all_goals rfl
theorem e_laws_FnExactStoryOf (n : Nat) {R1} {aL : List Hand} (aThing : Int) [H1 : EncL cHand R1 aL] : CP T (n + 5) 8 [.imm 5 R1, .i .i64 aThing] = (laws_FnExactStoryOf aL aThing).map fun r => .b r := by
  obtain ⟨rfl⟩ := H1
  rw [CP_eq]
  simp -dsimp +contextual only [↓evA, evB, evT, tys, encs, Nat.reduceAdd, Nat.reduceMul, Nat.reduceBEq, Nat.reduceLeDiff, Nat.reduceLT, Tryd.func8, Tryd.f8, a8, TP, orc_p, orc_l, e_laws_szHandS, e_laws_toHandS, e_spec_StoryOf, e_impl_StoryOf, e_laws_eqHandS]
  try simp only [laws_FnExactStoryOf, evT, encs, c_js, r_map_some, e_need_t]
  all_goals rfl
theorem e_laws_szFindS (n : Nat) {R1} {a : List Find} (left : Int) [H1 : EncL cFind R1 a] : CP T (n + 1) 60 [.imm 8 R1, .i .i64 left] = (laws_szFindS a left).map fun r => .i .i64 r := by
  obtain ⟨rfl⟩ := H1
  rw [CP_eq]
  simp -dsimp +contextual only [↓evA, evB, evT, tys, encs, Nat.reduceAdd, Nat.reduceMul, Nat.reduceBEq, Nat.reduceLeDiff, Nat.reduceLT, Tryd.func60, Tryd.f60, a60, TP, orc_p, orc_l]
  try simp only [laws_szFindS, evT, encs, c_js, r_map_some, e_need_t]
  all_goals rfl
theorem e_laws_szMarkS (n : Nat) {R1} {a : List Mark} (left : Int) [H1 : EncL cMark R1 a] : CP T (n + 1) 88 [.imm 2 R1, .i .i64 left] = (laws_szMarkS a left).map fun r => .i .i64 r := by
  obtain ⟨rfl⟩ := H1
  rw [CP_eq]
  simp -dsimp +contextual only [↓evA, evB, evT, tys, encs, Nat.reduceAdd, Nat.reduceMul, Nat.reduceBEq, Nat.reduceLeDiff, Nat.reduceLT, Tryd.func88, Tryd.f88, a88, TP, orc_p, orc_l]
  try simp only [laws_szMarkS, evT, encs, c_js, r_map_some, e_need_t]
  all_goals rfl
theorem e_laws_szSecret (n : Nat) (axThing : Int) {R1} {axMarks : List Mark} (axSalt : Int) (left : Int) [H1 : EncL cMark R1 axMarks] : CP T (n + 2) 76 [.agg [.i .i64 axThing, .imm 2 R1, .i .i64 axSalt], .i .i64 left] = (laws_szSecret (⟨axThing, axMarks, axSalt⟩ : Secret) left).map fun r => .i .i64 r := by
  obtain ⟨rfl⟩ := H1
  rw [CP_eq]
  simp -dsimp +contextual only [↓evA, evB, evT, tys, encs, Nat.reduceAdd, Nat.reduceMul, Nat.reduceBEq, Nat.reduceLeDiff, Nat.reduceLT, Tryd.func76, Tryd.f76, a76, TP, orc_p, orc_l, e_laws_szMarkS]
  try simp only [laws_szSecret, evT, encs, c_js, r_map_some, e_need_t]
  all_goals rfl
theorem e_laws_szSecretS_l5 (n : Nat) {R1} {a : List Secret} (left : Int) (i : Int) [H1 : EncL cSecret R1 a] : LP T (n + 3) 61 5 (frm [(0, .imm 3 R1), (1, .i .i64 left), (5, .i .i64 i)]) [] =
    lmap (run (laws_szSecretS_l5 a) (left, i)) (fun (zr : Int) => (XE.ret, frm [(4, .i .i64 zr)], [])) (fun (zr : Int) => (XE.exit 0, frm [(1, .i .i64 zr)], [])) := by
  obtain ⟨rfl⟩ := H1
  rw [LP_eq]
  simp -dsimp only [↓evA, evB, lpG_eq, Tryd.func61, Tryd.f61, a61, TP, Nat.reduceAdd, Nat.reduceMul, Nat.reduceBEq, Nat.reduceLeDiff, Nat.reduceLT]
  refine run_map (fun (zs : Int × Int) => (frm [(0, .imm 3 (a.map cSecret)), (1, .i .i64 zs.1), (5, .i .i64 zs.2)], [])) (evO (fun (zr : Int) => (XE.ret, frm [(4, .i .i64 zr)], [])) (fun (zr : Int) => (XE.exit 0, frm [(1, .i .i64 zr)], []))) ?_ (left, i)
  rintro ⟨left, i⟩
  simp -dsimp +contextual only [↓evA, evB, evT, tys, encs, Nat.reduceAdd, Nat.reduceMul, Nat.reduceBEq, Nat.reduceLeDiff, Nat.reduceLT, TP, orc_p, orc_l, e_laws_szSecret]
  try simp only [laws_szSecretS_l5, evT, encs, c_js, r_map_some, e_need_t]
  all_goals rfl
theorem e_laws_szSecretS (n : Nat) {R1} {a : List Secret} (left : Int) [H1 : EncL cSecret R1 a] : CP T (n + 4) 61 [.imm 3 R1, .i .i64 left] = (laws_szSecretS a left).map fun r => .i .i64 r := by
  obtain ⟨rfl⟩ := H1
  rw [CP_eq]
  simp -dsimp +contextual only [↓evA, evB, evT, tys, encs, Nat.reduceAdd, Nat.reduceMul, Nat.reduceBEq, Nat.reduceLeDiff, Nat.reduceLT, Tryd.func61, Tryd.f61, a61, TP, orc_p, orc_l, e_laws_szSecretS_l5]
  try simp only [laws_szSecretS, evT, encs, c_js, r_map_some, e_need_t]
  all_goals rfl
theorem e_laws_szTrialS (n : Nat) {R1} {a : List Trial} (left : Int) [H1 : EncL cTrial R1 a] : CP T (n + 1) 62 [.imm 4 R1, .i .i64 left] = (laws_szTrialS a left).map fun r => .i .i64 r := by
  obtain ⟨rfl⟩ := H1
  rw [CP_eq]
  simp -dsimp +contextual only [↓evA, evB, evT, tys, encs, Nat.reduceAdd, Nat.reduceMul, Nat.reduceBEq, Nat.reduceLeDiff, Nat.reduceLT, Tryd.func62, Tryd.f62, a62, TP, orc_p, orc_l]
  try simp only [laws_szTrialS, evT, encs, c_js, r_map_some, e_need_t]
  all_goals rfl
theorem e_laws_szEntryS (n : Nat) {R1} {a : List Entry} (left : Int) [H1 : EncL cEntry R1 a] : CP T (n + 1) 63 [.imm 4 R1, .i .i64 left] = (laws_szEntryS a left).map fun r => .i .i64 r := by
  obtain ⟨rfl⟩ := H1
  rw [CP_eq]
  simp -dsimp +contextual only [↓evA, evB, evT, tys, encs, Nat.reduceAdd, Nat.reduceMul, Nat.reduceBEq, Nat.reduceLeDiff, Nat.reduceLT, Tryd.func63, Tryd.f63, a63, TP, orc_p, orc_l]
  try simp only [laws_szEntryS, evT, encs, c_js, r_map_some, e_need_t]
  all_goals rfl
theorem e_laws_szHouse (n : Nat) (axNo : Int) {R1} {axFinds : List Find} {R2} {axSecrets : List Secret} {R3} {axSlots : List Slot} {R4} {axClaims : List Claim} {R5} {axTrials : List Trial} {R6} {axChain : List Hand} {R7} {axBook : List Entry} (axNow : Int) (left : Int) [H1 : EncL cFind R1 axFinds] [H2 : EncL cSecret R2 axSecrets] [H3 : EncL cSlot R3 axSlots] [H4 : EncL cClaim R4 axClaims] [H5 : EncL cTrial R5 axTrials] [H6 : EncL cHand R6 axChain] [H7 : EncL cEntry R7 axBook] : CP T (n + 5) 36 [.agg [.i .i64 axNo, .imm 8 R1, .imm 3 R2, .imm 3 R3, .imm 5 R4, .imm 4 R5, .imm 5 R6, .imm 4 R7, .i .i64 axNow], .i .i64 left] = (laws_szHouse (⟨axNo, axFinds, axSecrets, axSlots, axClaims, axTrials, axChain, axBook, axNow⟩ : House) left).map fun r => .i .i64 r := by
  obtain ⟨rfl⟩ := H1
  obtain ⟨rfl⟩ := H2
  obtain ⟨rfl⟩ := H3
  obtain ⟨rfl⟩ := H4
  obtain ⟨rfl⟩ := H5
  obtain ⟨rfl⟩ := H6
  obtain ⟨rfl⟩ := H7
  rw [CP_eq]
  simp -dsimp +contextual only [↓evA, evB, evT, tys, encs, Nat.reduceAdd, Nat.reduceMul, Nat.reduceBEq, Nat.reduceLeDiff, Nat.reduceLT, Tryd.func36, Tryd.f36, a36, TP, orc_p, orc_l, e_laws_szFindS, e_laws_szSecretS, e_laws_szSlotS, e_laws_szClaimS, e_laws_szTrialS, e_laws_szHandS, e_laws_szEntryS]
  try simp only [laws_szHouse, evT, encs, c_js, r_map_some, e_need_t]
  all_goals rfl
theorem e_laws_toThing (n : Nat) (axId : Int) (axKind : Int) (axColour : Int) (axSize : Int) (axWorth : Int) : CP T (n + 1) 89 [.agg [.i .i64 axId, .i .i64 axKind, .i .i64 axColour, .i .i64 axSize, .i .i64 axWorth]] = (laws_toThing (⟨axId, axKind, axColour, axSize, axWorth⟩ : Thing)).map fun r => .agg (cThing r) := by
  rw [CP_eq]
  simp -dsimp +contextual only [↓evA, evB, evT, tys, encs, Nat.reduceAdd, Nat.reduceMul, Nat.reduceBEq, Nat.reduceLeDiff, Nat.reduceLT, Tryd.func89, Tryd.f89, a89, TP, orc_p, orc_l]
  try simp only [laws_toThing, evT, encs, c_js, r_map_some, e_need_t]
  all_goals rfl
theorem e_laws_toFind (n : Nat) (axThingxId : Int) (axThingxKind : Int) (axThingxColour : Int) (axThingxSize : Int) (axThingxWorth : Int) (axPlace : Int) (axAt : Int) (axFinder : Int) : CP T (n + 2) 77 [.agg [.i .i64 axThingxId, .i .i64 axThingxKind, .i .i64 axThingxColour, .i .i64 axThingxSize, .i .i64 axThingxWorth, .i .i64 axPlace, .i .i64 axAt, .i .i64 axFinder]] = (laws_toFind (⟨⟨axThingxId, axThingxKind, axThingxColour, axThingxSize, axThingxWorth⟩, axPlace, axAt, axFinder⟩ : Find)).map fun r => .agg (cFind r) := by
  rw [CP_eq]
  simp -dsimp +contextual only [↓evA, evB, evT, tys, encs, Nat.reduceAdd, Nat.reduceMul, Nat.reduceBEq, Nat.reduceLeDiff, Nat.reduceLT, Tryd.func77, Tryd.f77, a77, TP, orc_p, orc_l, e_laws_toThing]
  try simp only [laws_toFind, evT, encs, c_js, r_map_some, e_need_t]
  all_goals rfl
theorem e_laws_toFindS_l3 (n : Nat) {R1} {a : List Find} {R2} {out : List Find} (i : Int) [H1 : EncL cFind R1 a] [H2 : EncL cFind R2 out] : LP T (n + 3) 64 3 (frm [(0, .imm 8 R1), (3, .sl 0), (4, .i .i64 i)]) [some (Ent.lst 8 R2)] =
    (run (laws_toFindS_l3 a) (out, i)).map (fun (zr : (List Find)) => (XE.exit 0, frm [(3, .sl 0)], [some (Ent.lst 8 (zr.map cFind))])) := by
  obtain ⟨rfl⟩ := H1
  obtain ⟨rfl⟩ := H2
  rw [LP_eq]
  simp -dsimp only [↓evA, evB, lpG_eq, Tryd.func64, Tryd.f64, a64, TP, Nat.reduceAdd, Nat.reduceMul, Nat.reduceBEq, Nat.reduceLeDiff, Nat.reduceLT]
  refine run_map (fun (zs : (List Find) × Int) => (frm [(0, .imm 8 (a.map cFind)), (3, .sl 0), (4, .i .i64 zs.2)], [some (Ent.lst 8 (zs.1.map cFind))])) (fun (zr : (List Find)) => (XE.exit 0, frm [(3, .sl 0)], [some (Ent.lst 8 (zr.map cFind))])) ?_ (out, i)
  rintro ⟨out, i⟩
  simp -dsimp +contextual only [↓evA, evB, evT, tys, encs, Nat.reduceAdd, Nat.reduceMul, Nat.reduceBEq, Nat.reduceLeDiff, Nat.reduceLT, TP, orc_p, orc_l, e_laws_toFind]
  try simp only [laws_toFindS_l3, evT, encs, c_js, r_map_some, e_need_t]
  all_goals rfl
theorem e_laws_toFindS (n : Nat) {R1} {a : List Find} [H1 : EncL cFind R1 a] : CP T (n + 4) 64 [.imm 8 R1] = (laws_toFindS a).map fun r => .own 8 (r.map cFind) := by
  obtain ⟨rfl⟩ := H1
  rw [CP_eq]
  simp -dsimp +contextual only [↓evA, evB, evT, tys, encs, Nat.reduceAdd, Nat.reduceMul, Nat.reduceBEq, Nat.reduceLeDiff, Nat.reduceLT, Tryd.func64, Tryd.f64, a64, TP, orc_p, orc_l, e_laws_toFindS_l3]
  try simp only [laws_toFindS, evT, encs, c_js, r_map_some, e_need_t]
  all_goals rfl
theorem e_laws_toMark (n : Nat) (axQuestion : Int) (axAnswer : Int) : CP T (n + 1) 96 [.agg [.i .i64 axQuestion, .i .i64 axAnswer]] = (laws_toMark (⟨axQuestion, axAnswer⟩ : Mark)).map fun r => .agg (cMark r) := by
  rw [CP_eq]
  simp -dsimp +contextual only [↓evA, evB, evT, tys, encs, Nat.reduceAdd, Nat.reduceMul, Nat.reduceBEq, Nat.reduceLeDiff, Nat.reduceLT, Tryd.func96, Tryd.f96, a96, TP, orc_p, orc_l]
  try simp only [laws_toMark, evT, encs, c_js, r_map_some, e_need_t]
  all_goals rfl
theorem e_laws_toMarkS_l3 (n : Nat) {R1} {a : List Mark} {R2} {out : List Mark} (i : Int) [H1 : EncL cMark R1 a] [H2 : EncL cMark R2 out] : LP T (n + 2) 90 3 (frm [(0, .imm 2 R1), (3, .sl 0), (4, .i .i64 i)]) [some (Ent.lst 2 R2)] =
    (run (laws_toMarkS_l3 a) (out, i)).map (fun (zr : (List Mark)) => (XE.exit 0, frm [(3, .sl 0)], [some (Ent.lst 2 (zr.map cMark))])) := by
  obtain ⟨rfl⟩ := H1
  obtain ⟨rfl⟩ := H2
  rw [LP_eq]
  simp -dsimp only [↓evA, evB, lpG_eq, Tryd.func90, Tryd.f90, a90, TP, Nat.reduceAdd, Nat.reduceMul, Nat.reduceBEq, Nat.reduceLeDiff, Nat.reduceLT]
  refine run_map (fun (zs : (List Mark) × Int) => (frm [(0, .imm 2 (a.map cMark)), (3, .sl 0), (4, .i .i64 zs.2)], [some (Ent.lst 2 (zs.1.map cMark))])) (fun (zr : (List Mark)) => (XE.exit 0, frm [(3, .sl 0)], [some (Ent.lst 2 (zr.map cMark))])) ?_ (out, i)
  rintro ⟨out, i⟩
  simp -dsimp +contextual only [↓evA, evB, evT, tys, encs, Nat.reduceAdd, Nat.reduceMul, Nat.reduceBEq, Nat.reduceLeDiff, Nat.reduceLT, TP, orc_p, orc_l, e_laws_toMark]
  try simp only [laws_toMarkS_l3, evT, encs, c_js, r_map_some, e_need_t]
  all_goals rfl
theorem e_laws_toMarkS (n : Nat) {R1} {a : List Mark} [H1 : EncL cMark R1 a] : CP T (n + 3) 90 [.imm 2 R1] = (laws_toMarkS a).map fun r => .own 2 (r.map cMark) := by
  obtain ⟨rfl⟩ := H1
  rw [CP_eq]
  simp -dsimp +contextual only [↓evA, evB, evT, tys, encs, Nat.reduceAdd, Nat.reduceMul, Nat.reduceBEq, Nat.reduceLeDiff, Nat.reduceLT, Tryd.func90, Tryd.f90, a90, TP, orc_p, orc_l, e_laws_toMarkS_l3]
  try simp only [laws_toMarkS, evT, encs, c_js, r_map_some, e_need_t]
  all_goals rfl
theorem e_laws_toSecret (n : Nat) (axThing : Int) {R1} {axMarks : List Mark} (axSalt : Int) [H1 : EncL cMark R1 axMarks] : CP T (n + 4) 78 [.agg [.i .i64 axThing, .imm 2 R1, .i .i64 axSalt]] = (laws_toSecret (⟨axThing, axMarks, axSalt⟩ : Secret)).map fun r => .agg (cSecretO r) := by
  obtain ⟨rfl⟩ := H1
  rw [CP_eq]
  simp -dsimp +contextual only [↓evA, evB, evT, tys, encs, Nat.reduceAdd, Nat.reduceMul, Nat.reduceBEq, Nat.reduceLeDiff, Nat.reduceLT, Tryd.func78, Tryd.f78, a78, TP, orc_p, orc_l, e_laws_toMarkS]
  try simp only [laws_toSecret, evT, encs, c_js, r_map_some, e_need_t]
  all_goals rfl
theorem e_laws_toSecretS_l3 (n : Nat) {R1} {a : List Secret} {R2} {out : List Secret} (i : Int) [H1 : EncL cSecret R1 a] [H2 : EncL cSecretO R2 out] : LP T (n + 5) 65 3 (frm [(0, .imm 3 R1), (3, .sl 0), (4, .i .i64 i)]) [some (Ent.lst 3 R2)] =
    (run (laws_toSecretS_l3 a) (out, i)).map (fun (zr : (List Secret)) => (XE.exit 0, frm [(3, .sl 0)], [some (Ent.lst 3 (zr.map cSecretO))])) := by
  obtain ⟨rfl⟩ := H1
  obtain ⟨rfl⟩ := H2
  rw [LP_eq]
  simp -dsimp only [↓evA, evB, lpG_eq, Tryd.func65, Tryd.f65, a65, TP, Nat.reduceAdd, Nat.reduceMul, Nat.reduceBEq, Nat.reduceLeDiff, Nat.reduceLT]
  refine run_map (fun (zs : (List Secret) × Int) => (frm [(0, .imm 3 (a.map cSecret)), (3, .sl 0), (4, .i .i64 zs.2)], [some (Ent.lst 3 (zs.1.map cSecretO))])) (fun (zr : (List Secret)) => (XE.exit 0, frm [(3, .sl 0)], [some (Ent.lst 3 (zr.map cSecretO))])) ?_ (out, i)
  rintro ⟨out, i⟩
  simp -dsimp +contextual only [↓evA, evB, evT, tys, encs, Nat.reduceAdd, Nat.reduceMul, Nat.reduceBEq, Nat.reduceLeDiff, Nat.reduceLT, TP, orc_p, orc_l, e_laws_toSecret]
  try simp only [laws_toSecretS_l3, evT, encs, c_js, r_map_some, e_need_t]
  all_goals rfl
theorem e_laws_toSecretS (n : Nat) {R1} {a : List Secret} [H1 : EncL cSecret R1 a] : CP T (n + 6) 65 [.imm 3 R1] = (laws_toSecretS a).map fun r => .own 3 (r.map cSecretO) := by
  obtain ⟨rfl⟩ := H1
  rw [CP_eq]
  simp -dsimp +contextual only [↓evA, evB, evT, tys, encs, Nat.reduceAdd, Nat.reduceMul, Nat.reduceBEq, Nat.reduceLeDiff, Nat.reduceLT, Tryd.func65, Tryd.f65, a65, TP, orc_p, orc_l, e_laws_toSecretS_l3]
  try simp only [laws_toSecretS, evT, encs, c_js, r_map_some, e_need_t]
  all_goals rfl
theorem e_laws_toTrial (n : Nat) (axClaim : Int) (axAsked : Int) (axRight : Int) (axWrong : Int) : CP T (n + 1) 79 [.agg [.i .i64 axClaim, .i .i64 axAsked, .i .i64 axRight, .i .i64 axWrong]] = (laws_toTrial (⟨axClaim, axAsked, axRight, axWrong⟩ : Trial)).map fun r => .agg (cTrial r) := by
  rw [CP_eq]
  simp -dsimp +contextual only [↓evA, evB, evT, tys, encs, Nat.reduceAdd, Nat.reduceMul, Nat.reduceBEq, Nat.reduceLeDiff, Nat.reduceLT, Tryd.func79, Tryd.f79, a79, TP, orc_p, orc_l]
  try simp only [laws_toTrial, evT, encs, c_js, r_map_some, e_need_t]
  all_goals rfl
theorem e_laws_toTrialS_l3 (n : Nat) {R1} {a : List Trial} {R2} {out : List Trial} (i : Int) [H1 : EncL cTrial R1 a] [H2 : EncL cTrial R2 out] : LP T (n + 2) 66 3 (frm [(0, .imm 4 R1), (3, .sl 0), (4, .i .i64 i)]) [some (Ent.lst 4 R2)] =
    (run (laws_toTrialS_l3 a) (out, i)).map (fun (zr : (List Trial)) => (XE.exit 0, frm [(3, .sl 0)], [some (Ent.lst 4 (zr.map cTrial))])) := by
  obtain ⟨rfl⟩ := H1
  obtain ⟨rfl⟩ := H2
  rw [LP_eq]
  simp -dsimp only [↓evA, evB, lpG_eq, Tryd.func66, Tryd.f66, a66, TP, Nat.reduceAdd, Nat.reduceMul, Nat.reduceBEq, Nat.reduceLeDiff, Nat.reduceLT]
  refine run_map (fun (zs : (List Trial) × Int) => (frm [(0, .imm 4 (a.map cTrial)), (3, .sl 0), (4, .i .i64 zs.2)], [some (Ent.lst 4 (zs.1.map cTrial))])) (fun (zr : (List Trial)) => (XE.exit 0, frm [(3, .sl 0)], [some (Ent.lst 4 (zr.map cTrial))])) ?_ (out, i)
  rintro ⟨out, i⟩
  simp -dsimp +contextual only [↓evA, evB, evT, tys, encs, Nat.reduceAdd, Nat.reduceMul, Nat.reduceBEq, Nat.reduceLeDiff, Nat.reduceLT, TP, orc_p, orc_l, e_laws_toTrial]
  try simp only [laws_toTrialS_l3, evT, encs, c_js, r_map_some, e_need_t]
  all_goals rfl
theorem e_laws_toTrialS (n : Nat) {R1} {a : List Trial} [H1 : EncL cTrial R1 a] : CP T (n + 3) 66 [.imm 4 R1] = (laws_toTrialS a).map fun r => .own 4 (r.map cTrial) := by
  obtain ⟨rfl⟩ := H1
  rw [CP_eq]
  simp -dsimp +contextual only [↓evA, evB, evT, tys, encs, Nat.reduceAdd, Nat.reduceMul, Nat.reduceBEq, Nat.reduceLeDiff, Nat.reduceLT, Tryd.func66, Tryd.f66, a66, TP, orc_p, orc_l, e_laws_toTrialS_l3]
  try simp only [laws_toTrialS, evT, encs, c_js, r_map_some, e_need_t]
  all_goals rfl
theorem e_laws_toEntry (n : Nat) (axFrom : Int) (axTo : Int) (axCents : Int) (axAt : Int) : CP T (n + 1) 80 [.agg [.i .i64 axFrom, .i .i64 axTo, .i .i64 axCents, .i .i64 axAt]] = (laws_toEntry (⟨axFrom, axTo, axCents, axAt⟩ : Entry)).map fun r => .agg (cEntry r) := by
  rw [CP_eq]
  simp -dsimp +contextual only [↓evA, evB, evT, tys, encs, Nat.reduceAdd, Nat.reduceMul, Nat.reduceBEq, Nat.reduceLeDiff, Nat.reduceLT, Tryd.func80, Tryd.f80, a80, TP, orc_p, orc_l]
  try simp only [laws_toEntry, evT, encs, c_js, r_map_some, e_need_t]
  all_goals rfl
theorem e_laws_toEntryS_l3 (n : Nat) {R1} {a : List Entry} {R2} {out : List Entry} (i : Int) [H1 : EncL cEntry R1 a] [H2 : EncL cEntry R2 out] : LP T (n + 2) 67 3 (frm [(0, .imm 4 R1), (3, .sl 0), (4, .i .i64 i)]) [some (Ent.lst 4 R2)] =
    (run (laws_toEntryS_l3 a) (out, i)).map (fun (zr : (List Entry)) => (XE.exit 0, frm [(3, .sl 0)], [some (Ent.lst 4 (zr.map cEntry))])) := by
  obtain ⟨rfl⟩ := H1
  obtain ⟨rfl⟩ := H2
  rw [LP_eq]
  simp -dsimp only [↓evA, evB, lpG_eq, Tryd.func67, Tryd.f67, a67, TP, Nat.reduceAdd, Nat.reduceMul, Nat.reduceBEq, Nat.reduceLeDiff, Nat.reduceLT]
  refine run_map (fun (zs : (List Entry) × Int) => (frm [(0, .imm 4 (a.map cEntry)), (3, .sl 0), (4, .i .i64 zs.2)], [some (Ent.lst 4 (zs.1.map cEntry))])) (fun (zr : (List Entry)) => (XE.exit 0, frm [(3, .sl 0)], [some (Ent.lst 4 (zr.map cEntry))])) ?_ (out, i)
  rintro ⟨out, i⟩
  simp -dsimp +contextual only [↓evA, evB, evT, tys, encs, Nat.reduceAdd, Nat.reduceMul, Nat.reduceBEq, Nat.reduceLeDiff, Nat.reduceLT, TP, orc_p, orc_l, e_laws_toEntry]
  try simp only [laws_toEntryS_l3, evT, encs, c_js, r_map_some, e_need_t]
  all_goals rfl
theorem e_laws_toEntryS (n : Nat) {R1} {a : List Entry} [H1 : EncL cEntry R1 a] : CP T (n + 3) 67 [.imm 4 R1] = (laws_toEntryS a).map fun r => .own 4 (r.map cEntry) := by
  obtain ⟨rfl⟩ := H1
  rw [CP_eq]
  simp -dsimp +contextual only [↓evA, evB, evT, tys, encs, Nat.reduceAdd, Nat.reduceMul, Nat.reduceBEq, Nat.reduceLeDiff, Nat.reduceLT, Tryd.func67, Tryd.f67, a67, TP, orc_p, orc_l, e_laws_toEntryS_l3]
  try simp only [laws_toEntryS, evT, encs, c_js, r_map_some, e_need_t]
  all_goals rfl
theorem e_laws_toHouse (n : Nat) (axNo : Int) {R1} {axFinds : List Find} {R2} {axSecrets : List Secret} {R3} {axSlots : List Slot} {R4} {axClaims : List Claim} {R5} {axTrials : List Trial} {R6} {axChain : List Hand} {R7} {axBook : List Entry} (axNow : Int) [H1 : EncL cFind R1 axFinds] [H2 : EncL cSecret R2 axSecrets] [H3 : EncL cSlot R3 axSlots] [H4 : EncL cClaim R4 axClaims] [H5 : EncL cTrial R5 axTrials] [H6 : EncL cHand R6 axChain] [H7 : EncL cEntry R7 axBook] : CP T (n + 7) 38 [.agg [.i .i64 axNo, .imm 8 R1, .imm 3 R2, .imm 3 R3, .imm 5 R4, .imm 4 R5, .imm 5 R6, .imm 4 R7, .i .i64 axNow]] = (laws_toHouse (⟨axNo, axFinds, axSecrets, axSlots, axClaims, axTrials, axChain, axBook, axNow⟩ : House)).map fun r => .agg (cHouseO r) := by
  obtain ⟨rfl⟩ := H1
  obtain ⟨rfl⟩ := H2
  obtain ⟨rfl⟩ := H3
  obtain ⟨rfl⟩ := H4
  obtain ⟨rfl⟩ := H5
  obtain ⟨rfl⟩ := H6
  obtain ⟨rfl⟩ := H7
  rw [CP_eq]
  simp -dsimp +contextual only [↓evA, evB, evT, tys, encs, Nat.reduceAdd, Nat.reduceMul, Nat.reduceBEq, Nat.reduceLeDiff, Nat.reduceLT, Tryd.func38, Tryd.f38, a38, TP, orc_p, orc_l, e_laws_toFindS, e_laws_toSecretS, e_laws_toSlotS, e_laws_toClaimS, e_laws_toTrialS, e_laws_toHandS, e_laws_toEntryS]
  try simp only [laws_toHouse, evT, encs, c_js, r_map_some, e_need_t]
  all_goals rfl
theorem e_spec_FormatHouse (n : Nat) (vhxNo : Int) {R1} {vhxFinds : List Find} {R2} {vhxSecrets : List Secret} {R3} {vhxSlots : List Slot} {R4} {vhxClaims : List Claim} {R5} {vhxTrials : List Trial} {R6} {vhxChain : List Hand} {R7} {vhxBook : List Entry} (vhxNow : Int) [H1 : EncL cFind R1 vhxFinds] [H2 : EncL cSecret R2 vhxSecrets] [H3 : EncL cSlot R3 vhxSlots] [H4 : EncL cClaim R4 vhxClaims] [H5 : EncL cTrial R5 vhxTrials] [H6 : EncL cHand R6 vhxChain] [H7 : EncL cEntry R7 vhxBook] : CP T (n + 5) 37 [.agg [.i .i64 vhxNo, .imm 8 R1, .imm 3 R2, .imm 3 R3, .imm 5 R4, .imm 4 R5, .imm 5 R6, .imm 4 R7, .i .i64 vhxNow]] = (spec_FormatHouse (⟨vhxNo, vhxFinds, vhxSecrets, vhxSlots, vhxClaims, vhxTrials, vhxChain, vhxBook, vhxNow⟩ : House)).map fun r => .s r := by
  obtain ⟨rfl⟩ := H1
  obtain ⟨rfl⟩ := H2
  obtain ⟨rfl⟩ := H3
  obtain ⟨rfl⟩ := H4
  obtain ⟨rfl⟩ := H5
  obtain ⟨rfl⟩ := H6
  obtain ⟨rfl⟩ := H7
  rw [CP_eq]
  simp -dsimp +contextual only [↓evA, evB, evT, tys, encs, Nat.reduceAdd, Nat.reduceMul, Nat.reduceBEq, Nat.reduceLeDiff, Nat.reduceLT, Tryd.func37, Tryd.f37, a37, TP, orc_p, orc_l, e_spec_FormatNumbers]
  try simp only [spec_FormatHouse, evT, encs, c_js, r_map_some, e_need_t]
  all_goals rfl
theorem e_impl_FormatHouse (n : Nat) (vhxNo : Int) {R1} {vhxFinds : List Find} {R2} {vhxSecrets : List Secret} {R3} {vhxSlots : List Slot} {R4} {vhxClaims : List Claim} {R5} {vhxTrials : List Trial} {R6} {vhxChain : List Hand} {R7} {vhxBook : List Entry} (vhxNow : Int) [H1 : EncL cFind R1 vhxFinds] [H2 : EncL cSecret R2 vhxSecrets] [H3 : EncL cSlot R3 vhxSlots] [H4 : EncL cClaim R4 vhxClaims] [H5 : EncL cTrial R5 vhxTrials] [H6 : EncL cHand R6 vhxChain] [H7 : EncL cEntry R7 vhxBook] : CP T (n + 5) 39 [.agg [.i .i64 vhxNo, .imm 8 R1, .imm 3 R2, .imm 3 R3, .imm 5 R4, .imm 4 R5, .imm 5 R6, .imm 4 R7, .i .i64 vhxNow]] = (impl_FormatHouse (⟨vhxNo, vhxFinds, vhxSecrets, vhxSlots, vhxClaims, vhxTrials, vhxChain, vhxBook, vhxNow⟩ : House)).map fun r => .s r := by
  obtain ⟨rfl⟩ := H1
  obtain ⟨rfl⟩ := H2
  obtain ⟨rfl⟩ := H3
  obtain ⟨rfl⟩ := H4
  obtain ⟨rfl⟩ := H5
  obtain ⟨rfl⟩ := H6
  obtain ⟨rfl⟩ := H7
  rw [CP_eq]
  simp -dsimp +contextual only [↓evA, evB, evT, tys, encs, Nat.reduceAdd, Nat.reduceMul, Nat.reduceBEq, Nat.reduceLeDiff, Nat.reduceLT, Tryd.func39, Tryd.f39, a39, TP, orc_p, orc_l, e_impl_FormatNumbers]
  try simp only [impl_FormatHouse, evT, encs, c_js, r_map_some, e_need_t]
  all_goals rfl
theorem e_laws_eqThing (n : Nat) (axId : Int) (axKind : Int) (axColour : Int) (axSize : Int) (axWorth : Int) (bxId : Int) (bxKind : Int) (bxColour : Int) (bxSize : Int) (bxWorth : Int) : CP T (n + 1) 91 [.agg [.i .i64 axId, .i .i64 axKind, .i .i64 axColour, .i .i64 axSize, .i .i64 axWorth], .agg [.i .i64 bxId, .i .i64 bxKind, .i .i64 bxColour, .i .i64 bxSize, .i .i64 bxWorth]] = (laws_eqThing (⟨axId, axKind, axColour, axSize, axWorth⟩ : Thing) (⟨bxId, bxKind, bxColour, bxSize, bxWorth⟩ : Thing)).map fun r => .b r := by
  rw [CP_eq]
  simp -dsimp +contextual only [↓evA, evB, evT, tys, encs, Nat.reduceAdd, Nat.reduceMul, Nat.reduceBEq, Nat.reduceLeDiff, Nat.reduceLT, Tryd.func91, Tryd.f91, a91, TP, orc_p, orc_l]
  try simp only [laws_eqThing, evT, encs, c_js, r_map_some, e_need_t]
  all_goals rfl
theorem e_laws_eqFind (n : Nat) (axThingxId : Int) (axThingxKind : Int) (axThingxColour : Int) (axThingxSize : Int) (axThingxWorth : Int) (axPlace : Int) (axAt : Int) (axFinder : Int) (bxThingxId : Int) (bxThingxKind : Int) (bxThingxColour : Int) (bxThingxSize : Int) (bxThingxWorth : Int) (bxPlace : Int) (bxAt : Int) (bxFinder : Int) : CP T (n + 2) 81 [.agg [.i .i64 axThingxId, .i .i64 axThingxKind, .i .i64 axThingxColour, .i .i64 axThingxSize, .i .i64 axThingxWorth, .i .i64 axPlace, .i .i64 axAt, .i .i64 axFinder], .agg [.i .i64 bxThingxId, .i .i64 bxThingxKind, .i .i64 bxThingxColour, .i .i64 bxThingxSize, .i .i64 bxThingxWorth, .i .i64 bxPlace, .i .i64 bxAt, .i .i64 bxFinder]] = (laws_eqFind (⟨⟨axThingxId, axThingxKind, axThingxColour, axThingxSize, axThingxWorth⟩, axPlace, axAt, axFinder⟩ : Find) (⟨⟨bxThingxId, bxThingxKind, bxThingxColour, bxThingxSize, bxThingxWorth⟩, bxPlace, bxAt, bxFinder⟩ : Find)).map fun r => .b r := by
  rw [CP_eq]
  simp -dsimp +contextual only [↓evA, evB, evT, tys, encs, Nat.reduceAdd, Nat.reduceMul, Nat.reduceBEq, Nat.reduceLeDiff, Nat.reduceLT, Tryd.func81, Tryd.f81, a81, TP, orc_p, orc_l, e_laws_eqThing]
  try simp only [laws_eqFind, evT, encs, c_js, r_map_some, e_need_t]
  all_goals rfl
theorem e_laws_eqFindS_l4 (n : Nat) {R1} {a : List Find} {R2} {b : List Find} (i : Int) [H1 : EncL cFind R1 a] [H2 : EncL cFind R2 b] : LP T (n + 3) 68 4 (frm [(0, .imm 8 R1), (1, .imm 8 R2), (5, .i .i64 i)]) [] =
    lmap (run (laws_eqFindS_l4 a b) i) (fun (zr : Bool) => (XE.ret, frm [(4, .b zr)], [])) (fun (zr : Unit) => (XE.exit 0, frm [], [])) := by
  obtain ⟨rfl⟩ := H1
  obtain ⟨rfl⟩ := H2
  rw [LP_eq]
  simp -dsimp only [↓evA, evB, lpG_eq, Tryd.func68, Tryd.f68, a68, TP, Nat.reduceAdd, Nat.reduceMul, Nat.reduceBEq, Nat.reduceLeDiff, Nat.reduceLT]
  refine run_map (fun (zs : Int) => (frm [(0, .imm 8 (a.map cFind)), (1, .imm 8 (b.map cFind)), (5, .i .i64 zs)], [])) (evO (fun (zr : Bool) => (XE.ret, frm [(4, .b zr)], [])) (fun (zr : Unit) => (XE.exit 0, frm [], []))) ?_ i
  intro i
  simp -dsimp +contextual only [↓evA, evB, evT, tys, encs, Nat.reduceAdd, Nat.reduceMul, Nat.reduceBEq, Nat.reduceLeDiff, Nat.reduceLT, TP, orc_p, orc_l, e_laws_eqFind]
  try simp only [laws_eqFindS_l4, evT, encs, c_js, r_map_some, e_need_t]
  all_goals rfl
theorem e_laws_eqFindS (n : Nat) {R1} {a : List Find} {R2} {b : List Find} [H1 : EncL cFind R1 a] [H2 : EncL cFind R2 b] : CP T (n + 4) 68 [.imm 8 R1, .imm 8 R2] = (laws_eqFindS a b).map fun r => .b r := by
  obtain ⟨rfl⟩ := H1
  obtain ⟨rfl⟩ := H2
  rw [CP_eq]
  simp -dsimp +contextual only [↓evA, evB, evT, tys, encs, Nat.reduceAdd, Nat.reduceMul, Nat.reduceBEq, Nat.reduceLeDiff, Nat.reduceLT, Tryd.func68, Tryd.f68, a68, TP, orc_p, orc_l, e_laws_eqFindS_l4]
  try simp only [laws_eqFindS, evT, encs, c_js, r_map_some, e_need_t]
  all_goals rfl
theorem e_laws_eqMark (n : Nat) (axQuestion : Int) (axAnswer : Int) (bxQuestion : Int) (bxAnswer : Int) : CP T (n + 1) 97 [.agg [.i .i64 axQuestion, .i .i64 axAnswer], .agg [.i .i64 bxQuestion, .i .i64 bxAnswer]] = (laws_eqMark (⟨axQuestion, axAnswer⟩ : Mark) (⟨bxQuestion, bxAnswer⟩ : Mark)).map fun r => .b r := by
  rw [CP_eq]
  simp -dsimp +contextual only [↓evA, evB, evT, tys, encs, Nat.reduceAdd, Nat.reduceMul, Nat.reduceBEq, Nat.reduceLeDiff, Nat.reduceLT, Tryd.func97, Tryd.f97, a97, TP, orc_p, orc_l]
  try simp only [laws_eqMark, evT, encs, c_js, r_map_some, e_need_t]
  all_goals rfl
theorem e_laws_eqMarkS_l4 (n : Nat) {R1} {a : List Mark} {R2} {b : List Mark} (i : Int) [H1 : EncL cMark R1 a] [H2 : EncL cMark R2 b] : LP T (n + 2) 92 4 (frm [(0, .imm 2 R1), (1, .imm 2 R2), (5, .i .i64 i)]) [] =
    lmap (run (laws_eqMarkS_l4 a b) i) (fun (zr : Bool) => (XE.ret, frm [(4, .b zr)], [])) (fun (zr : Unit) => (XE.exit 0, frm [], [])) := by
  obtain ⟨rfl⟩ := H1
  obtain ⟨rfl⟩ := H2
  rw [LP_eq]
  simp -dsimp only [↓evA, evB, lpG_eq, Tryd.func92, Tryd.f92, a92, TP, Nat.reduceAdd, Nat.reduceMul, Nat.reduceBEq, Nat.reduceLeDiff, Nat.reduceLT]
  refine run_map (fun (zs : Int) => (frm [(0, .imm 2 (a.map cMark)), (1, .imm 2 (b.map cMark)), (5, .i .i64 zs)], [])) (evO (fun (zr : Bool) => (XE.ret, frm [(4, .b zr)], [])) (fun (zr : Unit) => (XE.exit 0, frm [], []))) ?_ i
  intro i
  simp -dsimp +contextual only [↓evA, evB, evT, tys, encs, Nat.reduceAdd, Nat.reduceMul, Nat.reduceBEq, Nat.reduceLeDiff, Nat.reduceLT, TP, orc_p, orc_l, e_laws_eqMark]
  try simp only [laws_eqMarkS_l4, evT, encs, c_js, r_map_some, e_need_t]
  all_goals rfl
theorem e_laws_eqMarkS (n : Nat) {R1} {a : List Mark} {R2} {b : List Mark} [H1 : EncL cMark R1 a] [H2 : EncL cMark R2 b] : CP T (n + 3) 92 [.imm 2 R1, .imm 2 R2] = (laws_eqMarkS a b).map fun r => .b r := by
  obtain ⟨rfl⟩ := H1
  obtain ⟨rfl⟩ := H2
  rw [CP_eq]
  simp -dsimp +contextual only [↓evA, evB, evT, tys, encs, Nat.reduceAdd, Nat.reduceMul, Nat.reduceBEq, Nat.reduceLeDiff, Nat.reduceLT, Tryd.func92, Tryd.f92, a92, TP, orc_p, orc_l, e_laws_eqMarkS_l4]
  try simp only [laws_eqMarkS, evT, encs, c_js, r_map_some, e_need_t]
  all_goals rfl
theorem e_laws_eqSecret (n : Nat) (axThing : Int) {R1} {axMarks : List Mark} (axSalt : Int) (bxThing : Int) {R2} {bxMarks : List Mark} (bxSalt : Int) [H1 : EncL cMark R1 axMarks] [H2 : EncL cMark R2 bxMarks] : CP T (n + 4) 82 [.agg [.i .i64 axThing, .imm 2 R1, .i .i64 axSalt], .agg [.i .i64 bxThing, .imm 2 R2, .i .i64 bxSalt]] = (laws_eqSecret (⟨axThing, axMarks, axSalt⟩ : Secret) (⟨bxThing, bxMarks, bxSalt⟩ : Secret)).map fun r => .b r := by
  obtain ⟨rfl⟩ := H1
  obtain ⟨rfl⟩ := H2
  rw [CP_eq]
  simp -dsimp +contextual only [↓evA, evB, evT, tys, encs, Nat.reduceAdd, Nat.reduceMul, Nat.reduceBEq, Nat.reduceLeDiff, Nat.reduceLT, Tryd.func82, Tryd.f82, a82, TP, orc_p, orc_l, e_laws_eqMarkS]
  try simp only [laws_eqSecret, evT, encs, c_js, r_map_some, e_need_t]
  all_goals rfl
theorem e_laws_eqSecretS_l4 (n : Nat) {R1} {a : List Secret} {R2} {b : List Secret} (i : Int) [H1 : EncL cSecret R1 a] [H2 : EncL cSecret R2 b] : LP T (n + 5) 69 4 (frm [(0, .imm 3 R1), (1, .imm 3 R2), (5, .i .i64 i)]) [] =
    lmap (run (laws_eqSecretS_l4 a b) i) (fun (zr : Bool) => (XE.ret, frm [(4, .b zr)], [])) (fun (zr : Unit) => (XE.exit 0, frm [], [])) := by
  obtain ⟨rfl⟩ := H1
  obtain ⟨rfl⟩ := H2
  rw [LP_eq]
  simp -dsimp only [↓evA, evB, lpG_eq, Tryd.func69, Tryd.f69, a69, TP, Nat.reduceAdd, Nat.reduceMul, Nat.reduceBEq, Nat.reduceLeDiff, Nat.reduceLT]
  refine run_map (fun (zs : Int) => (frm [(0, .imm 3 (a.map cSecret)), (1, .imm 3 (b.map cSecret)), (5, .i .i64 zs)], [])) (evO (fun (zr : Bool) => (XE.ret, frm [(4, .b zr)], [])) (fun (zr : Unit) => (XE.exit 0, frm [], []))) ?_ i
  intro i
  simp -dsimp +contextual only [↓evA, evB, evT, tys, encs, Nat.reduceAdd, Nat.reduceMul, Nat.reduceBEq, Nat.reduceLeDiff, Nat.reduceLT, TP, orc_p, orc_l, e_laws_eqSecret]
  try simp only [laws_eqSecretS_l4, evT, encs, c_js, r_map_some, e_need_t]
  all_goals rfl
theorem e_laws_eqSecretS (n : Nat) {R1} {a : List Secret} {R2} {b : List Secret} [H1 : EncL cSecret R1 a] [H2 : EncL cSecret R2 b] : CP T (n + 6) 69 [.imm 3 R1, .imm 3 R2] = (laws_eqSecretS a b).map fun r => .b r := by
  obtain ⟨rfl⟩ := H1
  obtain ⟨rfl⟩ := H2
  rw [CP_eq]
  simp -dsimp +contextual only [↓evA, evB, evT, tys, encs, Nat.reduceAdd, Nat.reduceMul, Nat.reduceBEq, Nat.reduceLeDiff, Nat.reduceLT, Tryd.func69, Tryd.f69, a69, TP, orc_p, orc_l, e_laws_eqSecretS_l4]
  try simp only [laws_eqSecretS, evT, encs, c_js, r_map_some, e_need_t]
  all_goals rfl
theorem e_laws_eqTrial (n : Nat) (axClaim : Int) (axAsked : Int) (axRight : Int) (axWrong : Int) (bxClaim : Int) (bxAsked : Int) (bxRight : Int) (bxWrong : Int) : CP T (n + 1) 83 [.agg [.i .i64 axClaim, .i .i64 axAsked, .i .i64 axRight, .i .i64 axWrong], .agg [.i .i64 bxClaim, .i .i64 bxAsked, .i .i64 bxRight, .i .i64 bxWrong]] = (laws_eqTrial (⟨axClaim, axAsked, axRight, axWrong⟩ : Trial) (⟨bxClaim, bxAsked, bxRight, bxWrong⟩ : Trial)).map fun r => .b r := by
  rw [CP_eq]
  simp -dsimp +contextual only [↓evA, evB, evT, tys, encs, Nat.reduceAdd, Nat.reduceMul, Nat.reduceBEq, Nat.reduceLeDiff, Nat.reduceLT, Tryd.func83, Tryd.f83, a83, TP, orc_p, orc_l]
  try simp only [laws_eqTrial, evT, encs, c_js, r_map_some, e_need_t]
  all_goals rfl
theorem e_laws_eqTrialS_l4 (n : Nat) {R1} {a : List Trial} {R2} {b : List Trial} (i : Int) [H1 : EncL cTrial R1 a] [H2 : EncL cTrial R2 b] : LP T (n + 2) 70 4 (frm [(0, .imm 4 R1), (1, .imm 4 R2), (5, .i .i64 i)]) [] =
    lmap (run (laws_eqTrialS_l4 a b) i) (fun (zr : Bool) => (XE.ret, frm [(4, .b zr)], [])) (fun (zr : Unit) => (XE.exit 0, frm [], [])) := by
  obtain ⟨rfl⟩ := H1
  obtain ⟨rfl⟩ := H2
  rw [LP_eq]
  simp -dsimp only [↓evA, evB, lpG_eq, Tryd.func70, Tryd.f70, a70, TP, Nat.reduceAdd, Nat.reduceMul, Nat.reduceBEq, Nat.reduceLeDiff, Nat.reduceLT]
  refine run_map (fun (zs : Int) => (frm [(0, .imm 4 (a.map cTrial)), (1, .imm 4 (b.map cTrial)), (5, .i .i64 zs)], [])) (evO (fun (zr : Bool) => (XE.ret, frm [(4, .b zr)], [])) (fun (zr : Unit) => (XE.exit 0, frm [], []))) ?_ i
  intro i
  simp -dsimp +contextual only [↓evA, evB, evT, tys, encs, Nat.reduceAdd, Nat.reduceMul, Nat.reduceBEq, Nat.reduceLeDiff, Nat.reduceLT, TP, orc_p, orc_l, e_laws_eqTrial]
  try simp only [laws_eqTrialS_l4, evT, encs, c_js, r_map_some, e_need_t]
  all_goals rfl
theorem e_laws_eqTrialS (n : Nat) {R1} {a : List Trial} {R2} {b : List Trial} [H1 : EncL cTrial R1 a] [H2 : EncL cTrial R2 b] : CP T (n + 3) 70 [.imm 4 R1, .imm 4 R2] = (laws_eqTrialS a b).map fun r => .b r := by
  obtain ⟨rfl⟩ := H1
  obtain ⟨rfl⟩ := H2
  rw [CP_eq]
  simp -dsimp +contextual only [↓evA, evB, evT, tys, encs, Nat.reduceAdd, Nat.reduceMul, Nat.reduceBEq, Nat.reduceLeDiff, Nat.reduceLT, Tryd.func70, Tryd.f70, a70, TP, orc_p, orc_l, e_laws_eqTrialS_l4]
  try simp only [laws_eqTrialS, evT, encs, c_js, r_map_some, e_need_t]
  all_goals rfl
theorem e_laws_eqEntry (n : Nat) (axFrom : Int) (axTo : Int) (axCents : Int) (axAt : Int) (bxFrom : Int) (bxTo : Int) (bxCents : Int) (bxAt : Int) : CP T (n + 1) 84 [.agg [.i .i64 axFrom, .i .i64 axTo, .i .i64 axCents, .i .i64 axAt], .agg [.i .i64 bxFrom, .i .i64 bxTo, .i .i64 bxCents, .i .i64 bxAt]] = (laws_eqEntry (⟨axFrom, axTo, axCents, axAt⟩ : Entry) (⟨bxFrom, bxTo, bxCents, bxAt⟩ : Entry)).map fun r => .b r := by
  rw [CP_eq]
  simp -dsimp +contextual only [↓evA, evB, evT, tys, encs, Nat.reduceAdd, Nat.reduceMul, Nat.reduceBEq, Nat.reduceLeDiff, Nat.reduceLT, Tryd.func84, Tryd.f84, a84, TP, orc_p, orc_l]
  try simp only [laws_eqEntry, evT, encs, c_js, r_map_some, e_need_t]
  all_goals rfl
theorem e_laws_eqEntryS_l4 (n : Nat) {R1} {a : List Entry} {R2} {b : List Entry} (i : Int) [H1 : EncL cEntry R1 a] [H2 : EncL cEntry R2 b] : LP T (n + 2) 71 4 (frm [(0, .imm 4 R1), (1, .imm 4 R2), (5, .i .i64 i)]) [] =
    lmap (run (laws_eqEntryS_l4 a b) i) (fun (zr : Bool) => (XE.ret, frm [(4, .b zr)], [])) (fun (zr : Unit) => (XE.exit 0, frm [], [])) := by
  obtain ⟨rfl⟩ := H1
  obtain ⟨rfl⟩ := H2
  rw [LP_eq]
  simp -dsimp only [↓evA, evB, lpG_eq, Tryd.func71, Tryd.f71, a71, TP, Nat.reduceAdd, Nat.reduceMul, Nat.reduceBEq, Nat.reduceLeDiff, Nat.reduceLT]
  refine run_map (fun (zs : Int) => (frm [(0, .imm 4 (a.map cEntry)), (1, .imm 4 (b.map cEntry)), (5, .i .i64 zs)], [])) (evO (fun (zr : Bool) => (XE.ret, frm [(4, .b zr)], [])) (fun (zr : Unit) => (XE.exit 0, frm [], []))) ?_ i
  intro i
  simp -dsimp +contextual only [↓evA, evB, evT, tys, encs, Nat.reduceAdd, Nat.reduceMul, Nat.reduceBEq, Nat.reduceLeDiff, Nat.reduceLT, TP, orc_p, orc_l, e_laws_eqEntry]
  try simp only [laws_eqEntryS_l4, evT, encs, c_js, r_map_some, e_need_t]
  all_goals rfl
theorem e_laws_eqEntryS (n : Nat) {R1} {a : List Entry} {R2} {b : List Entry} [H1 : EncL cEntry R1 a] [H2 : EncL cEntry R2 b] : CP T (n + 3) 71 [.imm 4 R1, .imm 4 R2] = (laws_eqEntryS a b).map fun r => .b r := by
  obtain ⟨rfl⟩ := H1
  obtain ⟨rfl⟩ := H2
  rw [CP_eq]
  simp -dsimp +contextual only [↓evA, evB, evT, tys, encs, Nat.reduceAdd, Nat.reduceMul, Nat.reduceBEq, Nat.reduceLeDiff, Nat.reduceLT, Tryd.func71, Tryd.f71, a71, TP, orc_p, orc_l, e_laws_eqEntryS_l4]
  try simp only [laws_eqEntryS, evT, encs, c_js, r_map_some, e_need_t]
  all_goals rfl
theorem e_laws_eqHouse (n : Nat) (axNo : Int) {R1} {axFinds : List Find} {R2} {axSecrets : List Secret} {R3} {axSlots : List Slot} {R4} {axClaims : List Claim} {R5} {axTrials : List Trial} {R6} {axChain : List Hand} {R7} {axBook : List Entry} (axNow : Int) (bxNo : Int) {R8} {bxFinds : List Find} {R9} {bxSecrets : List Secret} {R10} {bxSlots : List Slot} {R11} {bxClaims : List Claim} {R12} {bxTrials : List Trial} {R13} {bxChain : List Hand} {R14} {bxBook : List Entry} (bxNow : Int) [H1 : EncL cFind R1 axFinds] [H2 : EncL cSecret R2 axSecrets] [H3 : EncL cSlot R3 axSlots] [H4 : EncL cClaim R4 axClaims] [H5 : EncL cTrial R5 axTrials] [H6 : EncL cHand R6 axChain] [H7 : EncL cEntry R7 axBook] [H8 : EncL cFind R8 bxFinds] [H9 : EncL cSecret R9 bxSecrets] [H10 : EncL cSlot R10 bxSlots] [H11 : EncL cClaim R11 bxClaims] [H12 : EncL cTrial R12 bxTrials] [H13 : EncL cHand R13 bxChain] [H14 : EncL cEntry R14 bxBook] : CP T (n + 7) 40 [.agg [.i .i64 axNo, .imm 8 R1, .imm 3 R2, .imm 3 R3, .imm 5 R4, .imm 4 R5, .imm 5 R6, .imm 4 R7, .i .i64 axNow], .agg [.i .i64 bxNo, .imm 8 R8, .imm 3 R9, .imm 3 R10, .imm 5 R11, .imm 4 R12, .imm 5 R13, .imm 4 R14, .i .i64 bxNow]] = (laws_eqHouse (⟨axNo, axFinds, axSecrets, axSlots, axClaims, axTrials, axChain, axBook, axNow⟩ : House) (⟨bxNo, bxFinds, bxSecrets, bxSlots, bxClaims, bxTrials, bxChain, bxBook, bxNow⟩ : House)).map fun r => .b r := by
  obtain ⟨rfl⟩ := H1
  obtain ⟨rfl⟩ := H2
  obtain ⟨rfl⟩ := H3
  obtain ⟨rfl⟩ := H4
  obtain ⟨rfl⟩ := H5
  obtain ⟨rfl⟩ := H6
  obtain ⟨rfl⟩ := H7
  obtain ⟨rfl⟩ := H8
  obtain ⟨rfl⟩ := H9
  obtain ⟨rfl⟩ := H10
  obtain ⟨rfl⟩ := H11
  obtain ⟨rfl⟩ := H12
  obtain ⟨rfl⟩ := H13
  obtain ⟨rfl⟩ := H14
  rw [CP_eq]
  simp -dsimp +contextual only [↓evA, evB, evT, tys, encs, Nat.reduceAdd, Nat.reduceMul, Nat.reduceBEq, Nat.reduceLeDiff, Nat.reduceLT, Tryd.func40, Tryd.f40, a40, TP, orc_p, orc_l, e_laws_eqFindS, e_laws_eqSecretS, e_laws_eqSlotS, e_laws_eqClaimS, e_laws_eqTrialS, e_laws_eqHandS, e_laws_eqEntryS]
  try simp only [laws_eqHouse, evT, encs, c_js, r_map_some, e_need_t]
  all_goals rfl
theorem e_laws_FnExactFormatHouse (n : Nat) (aHxNo : Int) {R1} {aHxFinds : List Find} {R2} {aHxSecrets : List Secret} {R3} {aHxSlots : List Slot} {R4} {aHxClaims : List Claim} {R5} {aHxTrials : List Trial} {R6} {aHxChain : List Hand} {R7} {aHxBook : List Entry} (aHxNow : Int) [H1 : EncL cFind R1 aHxFinds] [H2 : EncL cSecret R2 aHxSecrets] [H3 : EncL cSlot R3 aHxSlots] [H4 : EncL cClaim R4 aHxClaims] [H5 : EncL cTrial R5 aHxTrials] [H6 : EncL cHand R6 aHxChain] [H7 : EncL cEntry R7 aHxBook] : CP T (n + 8) 9 [.agg [.i .i64 aHxNo, .imm 8 R1, .imm 3 R2, .imm 3 R3, .imm 5 R4, .imm 4 R5, .imm 5 R6, .imm 4 R7, .i .i64 aHxNow]] = (laws_FnExactFormatHouse (⟨aHxNo, aHxFinds, aHxSecrets, aHxSlots, aHxClaims, aHxTrials, aHxChain, aHxBook, aHxNow⟩ : House)).map fun r => .b r := by
  obtain ⟨rfl⟩ := H1
  obtain ⟨rfl⟩ := H2
  obtain ⟨rfl⟩ := H3
  obtain ⟨rfl⟩ := H4
  obtain ⟨rfl⟩ := H5
  obtain ⟨rfl⟩ := H6
  obtain ⟨rfl⟩ := H7
  rw [CP_eq]
  simp -dsimp +contextual only [↓evA, evB, evT, tys, encs, Nat.reduceAdd, Nat.reduceMul, Nat.reduceBEq, Nat.reduceLeDiff, Nat.reduceLT, Tryd.func9, Tryd.f9, a9, TP, orc_p, orc_l, e_laws_szHouse, e_laws_toHouse, e_spec_FormatHouse, e_impl_FormatHouse, e_laws_eqHouse]
  try simp only [laws_FnExactFormatHouse, evT, encs, c_js, r_map_some, e_need_t]
  all_goals rfl
end Go.Proofs.YtaajilepbclmfaaDoor
