import Derived.Test.YtponohekgnklkaaGreatEc
namespace Go.Proofs.YtponohekgnklkaaGreat
open Go Go.Proofs Go.Proofs.YtponohekgnklkaaGreat.Am
set_option maxHeartbeats 4000000
set_option linter.unusedVariables false
set_option linter.unusedSimpArgs false
set_option linter.defProp false
set_option maxRecDepth 100000
variable (n : Nat)
theorem Qr8 {R1 c} [H1 : EncL Qdt R1 c] : CP T (n + 1) 4 [.imm 1 R1] = (QiS c).map fun r => .b r := by
 obtain ⟨rfl⟩ := H1
 rw [Qf]
 simp -dsimp +contextual only [↓evA, eZ, Nat.reduceAdd, Nat.reduceMul, Nat.reduceBEq, Nat.reduceLeDiff, Nat.reduceLT, Tryz.func4, Tryz.f4, Aa4, An4]
 try simp only [QiS, eY]
 all_goals rfl
theorem QlE (a i) {R1 c} [H1 : EncL Qdt R1 c] : LP T (n + 1) 16 3 (frm [(0, .imm 1 R1), (3, .i .i64 a), (4, .i .i64 i)]) [] =
  (run (J1 c) (a, i)).map (fun (zr : Int) => (XE.exit 0, frm [(0, .imm 1 (c.map Qdt)), (3, .i .i64 zr)], [])) := by
 obtain ⟨rfl⟩ := H1
 rw [Qy]
 simp -dsimp only [↓evA, evB, Qo, Tryz.func16, Tryz.f16, QJS, QyK, TP, TZ, Nat.reduceAdd, Nat.reduceMul, Nat.reduceBEq, Nat.reduceLeDiff, Nat.reduceLT]
 apply VS a i
 intro a i
 simp -dsimp +contextual only [↓evA, eZ, Nat.reduceAdd, Nat.reduceMul, Nat.reduceBEq, Nat.reduceLeDiff, Nat.reduceLT]
 try simp only [J1, eY]
 all_goals rfl
theorem QfN {R1 c} [H1 : EncL Qdt R1 c] : CA T (n + 2) 16 [] [.imm 1 R1] = (QcE c).map fun r => (.ptr 0 0 0, [some (Ent.box (QK r))]) := by
 obtain ⟨rfl⟩ := H1
 rw [Qa2]
 simp -dsimp +contextual (maxSteps := 100000000) only [↓evA, eZ, Nat.reduceAdd, Nat.reduceMul, Nat.reduceBEq, Nat.reduceLeDiff, Nat.reduceLT, Tryz.func16, Tryz.f16, QJS, QyK, QlE]
 try simp only [QcE, eY]
 all_goals rfl
theorem QnS {R1 c} [H1 : EncR QK R1 c] : CA T (n + 1) 89 [some (Ent.box R1)] [.ptr 0 0 0] = (QaD c).map fun r => (.i .i64 r.2, [some (Ent.box (QK r.1))]) := by
 obtain ⟨rfl⟩ := H1
 rw [Qa2]
 simp -dsimp +contextual (maxSteps := 100000000) only [↓evA, eZ, Nat.reduceAdd, Nat.reduceMul, Nat.reduceBEq, Nat.reduceLeDiff, Nat.reduceLT, Tryz.func89, Tryz.f89, QUn, QB8]
 try simp only [QaD, eY]
 all_goals rfl
theorem Qz (a) {R1 c} [H1 : EncR QK R1 c] : CA T (n + 2) 43 [some (Ent.box R1)] [.ptr 0 0 0, .i .i64 a] = (Qc c a).map fun r => (.i .i64 r.2, [some (Ent.box (QK r.1))]) := by
 obtain ⟨rfl⟩ := H1
 rw [Qa2]
 simp -dsimp +contextual (maxSteps := 100000000) only [↓evA, eZ, Nat.reduceAdd, Nat.reduceMul, Nat.reduceBEq, Nat.reduceLeDiff, Nat.reduceLT, Tryz.func43, Tryz.f43, QTR, QB7, srt, QnS]
 try simp only [Qc, eY]
 all_goals rfl
theorem Qic (i) {R1 c R2 l} [H1 : EncR QK R1 c] [H2 : EncL QX R2 l] : LP T (n + 3) 52 3 (frm [(0, .ptr 0 0 0), (3, .sl 1), (4, .i .i64 i)]) [some (Ent.box R1), some (Ent.lst 3 R2)] =
  (run J6 (c, l, i)).map (fun (zr : l1Cur × (List Slot)) => (XE.exit 0, frm [(0, .ptr 0 0 0), (3, .sl 1)], [some (Ent.box (QK zr.1)), some (Ent.lst 3 (zr.2.map QX))])) := by
 rcases H1, H2 with ⟨⟨rfl⟩, ⟨rfl⟩⟩
 rw [Qy]
 simp -dsimp only [↓evA, evB, Qo, Tryz.func52, Tryz.f52, QIl, Qyc, TP, TZ, Nat.reduceAdd, Nat.reduceMul, Nat.reduceBEq, Nat.reduceLeDiff, Nat.reduceLT]
 apply Qcp c l i
 intro c l i
 simp -dsimp +contextual only [↓evA, eZ, Nat.reduceAdd, Nat.reduceMul, Nat.reduceBEq, Nat.reduceLeDiff, Nat.reduceLT, srt, Qz]
 try simp only [J6, eY]
 all_goals rfl
theorem Qf3 {R1 c} [H1 : EncR QK R1 c] : CA T (n + 4) 52 [some (Ent.box R1)] [.ptr 0 0 0] = (Qbj c).map fun r => (.sl 1, [some (Ent.box (QK r.1)), some (Ent.lst 3 (r.2.map QX))]) := by
 obtain ⟨rfl⟩ := H1
 rw [Qa2]
 simp -dsimp +contextual (maxSteps := 100000000) only [↓evA, eZ, Nat.reduceAdd, Nat.reduceMul, Nat.reduceBEq, Nat.reduceLeDiff, Nat.reduceLT, Tryz.func52, Tryz.f52, QIl, Qyc, srt, Qic]
 try simp only [Qbj, eY]
 all_goals rfl
theorem QjJ (i) {R1 l R2 o} [H1 : EncL Q4 R1 l] [H2 : EncL QB R2 o] : LP T (n + 1) 164 3 (frm [(0, .imm 3 R1), (3, .sl 0), (4, .i .i64 i)]) [some (Ent.lst 3 R2)] =
  (run (JI l) (o, i)).map (fun (zr : (List Secret)) => (XE.exit 0, frm [(3, .sl 0)], [some (Ent.lst 3 (zr.map QB))])) := by
 rcases H1, H2 with ⟨⟨rfl⟩, ⟨rfl⟩⟩
 rw [Qy]
 simp -dsimp only [↓evA, evB, Qo, Tryz.func164, Tryz.f164, QDM, QqW, TP, TZ, Nat.reduceAdd, Nat.reduceMul, Nat.reduceBEq, Nat.reduceLeDiff, Nat.reduceLT]
 apply VS o i
 intro o i
 simp -dsimp +contextual only [↓evA, eZ, Nat.reduceAdd, Nat.reduceMul, Nat.reduceBEq, Nat.reduceLeDiff, Nat.reduceLT]
 try simp only [JI, eY]
 all_goals rfl
theorem QgO {R1 l} [H1 : EncL Q4 R1 l] : CP T (n + 2) 164 [.imm 3 R1] = (Xp l).map fun r => .own 3 (r.map QB) := by
 obtain ⟨rfl⟩ := H1
 rw [Qf]
 simp -dsimp +contextual only [↓evA, eZ, Nat.reduceAdd, Nat.reduceMul, Nat.reduceBEq, Nat.reduceLeDiff, Nat.reduceLT, Tryz.func164, Tryz.f164, QDM, QqW, QjJ]
 try simp only [Xp, eY]
 all_goals first | rfl | (simp +contextual only [evN] <;> rfl)
theorem Jo {R1 a} [H1 : EncR QV R1 a] : CP T (n + 3) 108 [.agg R1] = (VA a).map fun r => .agg (VU r) := by
 obtain ⟨rfl⟩ := H1
 rw [Qf]
 simp -dsimp +contextual (maxSteps := 100000000) only [↓evA, eZ, Nat.reduceAdd, Nat.reduceMul, Nat.reduceBEq, Nat.reduceLeDiff, Nat.reduceLT, Tryz.func108, Tryz.f108, QK7, Qtr, QgO]
 try simp only [VA, eY]
 all_goals rfl
theorem Xe (a l m) : CP T (n + 1) 130 [.i .i64 a, .i .i64 l, .i .i64 m] = (Qe a l m).map fun r => .b r := by
 rw [Qf]
 simp -dsimp +contextual only [↓evA, eZ, Nat.reduceAdd, Nat.reduceMul, Nat.reduceBEq, Nat.reduceLeDiff, Nat.reduceLT, Tryz.func130, Tryz.f130, QOY, Quc]
 try simp only [Qe, eY]
 all_goals rfl
theorem Qem {R1 a} [H1 : EncR Qbm R1 a] : CP T (n + 2) 185 [.agg R1] = (XX a).map fun r => .b r := by
 obtain ⟨rfl⟩ := H1
 rw [Qf]
 simp -dsimp +contextual only [↓evA, eZ, Nat.reduceAdd, Nat.reduceMul, Nat.reduceBEq, Nat.reduceLeDiff, Nat.reduceLT, Tryz.func185, Tryz.f185, QNF, Qus, Xe]
 try simp only [XX, eY]
 all_goals rfl
theorem QnH {R1 f} [H1 : EncR QE R1 f] : CP T (n + 3) 208 [.agg R1] = (X2 f).map fun r => .b r := by
 obtain ⟨rfl⟩ := H1
 rw [Qf]
 simp -dsimp +contextual only [↓evA, eZ, Nat.reduceAdd, Nat.reduceMul, Nat.reduceBEq, Nat.reduceLeDiff, Nat.reduceLT, Tryz.func208, Tryz.f208, QOo, Qti, Qem, Xe]
 try simp only [X2, eY]
 all_goals rfl
theorem Qid (i) {R1 l} [H1 : EncL QE R1 l] : LP T (n + 4) 165 2 (frm [(0, .imm 8 R1), (3, .i .i64 i)]) [] =
  Jd (run (Vh l) i) (fun (zr : Bool) => (XE.ret, frm [(2, .b zr)], [])) (fun (zr : Unit) => (XE.exit 0, frm [(0, .imm 8 (l.map QE))], [])) := by
 obtain ⟨rfl⟩ := H1
 rw [Qy]
 simp -dsimp only [↓evA, evB, Qo, Tryz.func165, Tryz.f165, QDY, QqX, TP, TZ, Nat.reduceAdd, Nat.reduceMul, Nat.reduceBEq, Nat.reduceLeDiff, Nat.reduceLT]
 apply Qs i
 intro i
 simp -dsimp +contextual only [↓evA, eZ, Nat.reduceAdd, Nat.reduceMul, Nat.reduceBEq, Nat.reduceLeDiff, Nat.reduceLT, QnH]
 try simp only [Vh, eY]
 all_goals rfl
theorem Qf1 {R1 l} [H1 : EncL QE R1 l] : CP T (n + 5) 165 [.imm 8 R1] = (Xl l).map fun r => .b r := by
 obtain ⟨rfl⟩ := H1
 rw [Qf]
 simp -dsimp +contextual only [↓evA, eZ, Nat.reduceAdd, Nat.reduceMul, Nat.reduceBEq, Nat.reduceLeDiff, Nat.reduceLT, Tryz.func165, Tryz.f165, QDY, QqX, Qid]
 try simp only [Xl, eY]
 all_goals rfl
theorem Qig (i) {R1 l} [H1 : EncL Vp R1 l] : LP T (n + 2) 178 2 (frm [(0, .imm 2 R1), (3, .i .i64 i)]) [] =
  Jd (run (J8 l) i) (fun (zr : Bool) => (XE.ret, frm [(2, .b zr)], [])) (fun (zr : Unit) => (XE.exit 0, frm [(0, .imm 2 (l.map Vp))], [])) := by
 obtain ⟨rfl⟩ := H1
 rw [Qy]
 simp -dsimp only [↓evA, evB, Qo, Tryz.func178, Tryz.f178, QDA, Qqm, TP, TZ, Nat.reduceAdd, Nat.reduceMul, Nat.reduceBEq, Nat.reduceLeDiff, Nat.reduceLT]
 apply Qs i
 intro i
 simp -dsimp +contextual only [↓evA, eZ, Nat.reduceAdd, Nat.reduceMul, Nat.reduceBEq, Nat.reduceLeDiff, Nat.reduceLT, Xe]
 try simp only [J8, eY]
 all_goals rfl
theorem QcA {R1 l} [H1 : EncL Vp R1 l] : CP T (n + 3) 178 [.imm 2 R1] = (Jf l).map fun r => .b r := by
 obtain ⟨rfl⟩ := H1
 rw [Qf]
 simp -dsimp +contextual only [↓evA, eZ, Nat.reduceAdd, Nat.reduceMul, Nat.reduceBEq, Nat.reduceLeDiff, Nat.reduceLT, Tryz.func178, Tryz.f178, QDA, Qqm, Qig]
 try simp only [Jf, eY]
 all_goals rfl
theorem QgZ (a) {R1 l} [H1 : EncL Q4 R1 l] : LP T (n + 4) 166 2 (frm [(0, .imm 3 R1), (3, .i .i64 a)]) [] =
  Jd (run (XA l) a) (fun (zr : Bool) => (XE.ret, frm [(2, .b zr)], [])) (fun (zr : Unit) => (XE.exit 0, frm [(0, .imm 3 (l.map Q4))], [])) := by
 obtain ⟨rfl⟩ := H1
 rw [Qy]
 simp -dsimp only [↓evA, evB, Qo, Tryz.func166, Tryz.f166, QDi, QpX, TP, TZ, Nat.reduceAdd, Nat.reduceMul, Nat.reduceBEq, Nat.reduceLeDiff, Nat.reduceLT]
 apply Qs a
 intro a
 simp -dsimp +contextual only [↓evA, eZ, Nat.reduceAdd, Nat.reduceMul, Nat.reduceBEq, Nat.reduceLeDiff, Nat.reduceLT, Xe, QcA]
 try simp only [XA, eY]
 all_goals rfl
theorem QeM {R1 l} [H1 : EncL Q4 R1 l] : CP T (n + 5) 166 [.imm 3 R1] = (Xq l).map fun r => .b r := by
 obtain ⟨rfl⟩ := H1
 rw [Qf]
 simp -dsimp +contextual only [↓evA, eZ, Nat.reduceAdd, Nat.reduceMul, Nat.reduceBEq, Nat.reduceLeDiff, Nat.reduceLT, Tryz.func166, Tryz.f166, QDi, QpX, QgZ]
 try simp only [Xq, eY]
 all_goals rfl
theorem Qix (a a2) {R1 l} [H1 : EncL QX R1 l] : LP T (n + 1) 167 7 (frm [(0, .imm 3 R1), (3, .i .i64 a), (4, .i .i64 a2)]) [] =
  Jd (run (VJ l a) a2) (fun (zr : Bool) => (XE.ret, frm [(2, .b zr)], [])) (fun (zr : Unit) => (XE.exit 2, frm [(0, .imm 3 (l.map QX)), (3, .i .i64 a)], [])) := by
 obtain ⟨rfl⟩ := H1
 rw [Qy]
 simp -dsimp only [↓evA, evB, Qo, Tryz.func167, Tryz.f167, QxJ, Qon, TP, TZ, Nat.reduceAdd, Nat.reduceMul, Nat.reduceBEq, Nat.reduceLeDiff, Nat.reduceLT]
 apply Qs a2
 intro a2
 simp -dsimp +contextual only [↓evA, eZ, Nat.reduceAdd, Nat.reduceMul, Nat.reduceBEq, Nat.reduceLeDiff, Nat.reduceLT]
 try simp only [VJ, eY]
 all_goals rfl
theorem Qh5 (a) {R1 l} [H1 : EncL QX R1 l] : LP T (n + 2) 167 2 (frm [(0, .imm 3 R1), (3, .i .i64 a)]) [] =
  Jd (run (Vn l) a) (fun (zr : Bool) => (XE.ret, frm [(2, .b zr)], [])) (fun (zr : Unit) => (XE.exit 0, frm [(0, .imm 3 (l.map QX))], [])) := by
 obtain ⟨rfl⟩ := H1
 rw [Qy]
 simp -dsimp only [↓evA, evB, Qo, Tryz.func167, Tryz.f167, QxJ, Qon, TP, TZ, Nat.reduceAdd, Nat.reduceMul, Nat.reduceBEq, Nat.reduceLeDiff, Nat.reduceLT]
 apply Qs a
 intro a
 simp -dsimp +contextual only [↓evA, eZ, Nat.reduceAdd, Nat.reduceMul, Nat.reduceBEq, Nat.reduceLeDiff, Nat.reduceLT, Xe, Qix]
 try simp only [Vn, eY]
 all_goals rfl
theorem QdW {R1 l} [H1 : EncL QX R1 l] : CP T (n + 3) 167 [.imm 3 R1] = (Xk l).map fun r => .b r := by
 obtain ⟨rfl⟩ := H1
 rw [Qf]
 simp -dsimp +contextual only [↓evA, eZ, Nat.reduceAdd, Nat.reduceMul, Nat.reduceBEq, Nat.reduceLeDiff, Nat.reduceLT, Tryz.func167, Tryz.f167, QxJ, Qon, Qh5]
 try simp only [Xk, eY]
 all_goals rfl
theorem QhP (a a3) {R1 l R2 a2} [H1 : EncL Qj R1 l] [H2 : EncR Qj R2 a2] : LP T (n + 1) 168 8 (frm [(0, .imm 5 R1), (3, .i .i64 a), (4, .ptr 0 0 0), (5, .i .i64 a3)]) [some (Ent.box R2)] =
  Jd (run (XT l a a2) a3) (fun (zr : Bool) => (XE.ret, frm [(2, .b zr)], [])) (fun (zr : Unit) => (XE.exit 2, frm [(0, .imm 5 (l.map Qj)), (3, .i .i64 a)], [])) := by
 rcases H1, H2 with ⟨⟨rfl⟩, ⟨rfl⟩⟩
 rw [Qy]
 simp -dsimp only [↓evA, evB, Qo, Tryz.func168, Tryz.f168, Qy3, Qog, TP, TZ, Nat.reduceAdd, Nat.reduceMul, Nat.reduceBEq, Nat.reduceLeDiff, Nat.reduceLT]
 apply Qs a3
 intro a3
 simp -dsimp +contextual only [↓evA, eZ, Nat.reduceAdd, Nat.reduceMul, Nat.reduceBEq, Nat.reduceLeDiff, Nat.reduceLT]
 try simp only [XT, eY]
 all_goals rfl
theorem Qhr (a) {R1 l} [H1 : EncL Qj R1 l] : LP T (n + 2) 168 2 (frm [(0, .imm 5 R1), (3, .i .i64 a)]) [] =
  Jd (run (Vq l) a) (fun (zr : Bool) => (XE.ret, frm [(2, .b zr)], [])) (fun (zr : Unit) => (XE.exit 0, frm [(0, .imm 5 (l.map Qj))], [])) := by
 obtain ⟨rfl⟩ := H1
 rw [Qy]
 simp -dsimp only [↓evA, evB, Qo, Tryz.func168, Tryz.f168, Qy3, Qog, TP, TZ, Nat.reduceAdd, Nat.reduceMul, Nat.reduceBEq, Nat.reduceLeDiff, Nat.reduceLT]
 apply Qs a
 intro a
 simp -dsimp +contextual only [↓evA, eZ, Nat.reduceAdd, Nat.reduceMul, Nat.reduceBEq, Nat.reduceLeDiff, Nat.reduceLT, Xe, QhP]
 try simp only [Vq, eY]
 all_goals rfl
theorem Qdu {R1 l} [H1 : EncL Qj R1 l] : CP T (n + 3) 168 [.imm 5 R1] = (Q1 l).map fun r => .b r := by
 obtain ⟨rfl⟩ := H1
 rw [Qf]
 simp -dsimp +contextual only [↓evA, eZ, Nat.reduceAdd, Nat.reduceMul, Nat.reduceBEq, Nat.reduceLeDiff, Nat.reduceLT, Tryz.func168, Tryz.f168, Qy3, Qog, Qhr]
 try simp only [Q1, eY]
 all_goals rfl
theorem QmE (a m) : CP T (n + 2) 226 [.i .i64 a, .i .i64 m] = (Qdj a m).map fun r => .i .i64 r := by
 rw [Qf]
 simp -dsimp +contextual only [↓evA, eZ, Nat.reduceAdd, Nat.reduceMul, Nat.reduceBEq, Nat.reduceLeDiff, Nat.reduceLT, Tryz.func226, Tryz.f226, QH8, Qtx, Xe]
 try simp only [Qdj, eY]
 all_goals rfl
theorem Qmu (d i) {R1 l} [H1 : EncL VP R1 l] : LP T (n + 3) 190 3 (frm [(0, .imm 1 R1), (3, .i .i64 d), (4, .i .i64 i)]) [] =
  (run (Xw l) (d, i)).map (fun (zr : Int) => (XE.exit 0, frm [(3, .i .i64 zr)], [])) := by
 obtain ⟨rfl⟩ := H1
 rw [Qy]
 simp -dsimp only [↓evA, evB, Qo, Tryz.func190, Tryz.f190, QDf, Qqd, TP, TZ, Nat.reduceAdd, Nat.reduceMul, Nat.reduceBEq, Nat.reduceLeDiff, Nat.reduceLT]
 apply VS d i
 intro d i
 simp -dsimp +contextual only [↓evA, eZ, Nat.reduceAdd, Nat.reduceMul, Nat.reduceBEq, Nat.reduceLeDiff, Nat.reduceLT, QmE]
 try simp only [Xw, eY]
 all_goals rfl
theorem Qgr {R1 l} [H1 : EncL VP R1 l] : CP T (n + 4) 190 [.imm 1 R1] = (ZM l).map fun r => .i .i64 r := by
 obtain ⟨rfl⟩ := H1
 rw [Qf]
 simp -dsimp +contextual only [↓evA, eZ, Nat.reduceAdd, Nat.reduceMul, Nat.reduceBEq, Nat.reduceLeDiff, Nat.reduceLT, Tryz.func190, Tryz.f190, QDf, Qqd, Qmu]
 try simp only [ZM, eY]
 all_goals rfl
theorem QfZ (b) {R1 a} [H1 : EncR Vv R1 a] : CP T (n + 5) 209 [.i .i64 b, .agg R1] = (JZ b a).map fun r => .i .i64 r := by
 obtain ⟨rfl⟩ := H1
 rw [Qf]
 simp -dsimp +contextual only [↓evA, eZ, Nat.reduceAdd, Nat.reduceMul, Nat.reduceBEq, Nat.reduceLeDiff, Nat.reduceLT, Tryz.func209, Tryz.f209, QIT, QuB, Qgr]
 try simp only [JZ, eY]
 all_goals rfl
theorem QjU (a b k i) {R1 l} [H1 : EncL Vv R1 l] : LP T (n + 1) 210 3 (frm [(0, .imm 5 R1), (1, .i .i64 a), (2, .i .i64 b), (7, .i .i64 k), (8, .i .i64 i)]) [] =
  (run (JL l a b) (k, i)).map (fun (zr : Int) => (XE.exit 0, frm [(7, .i .i64 zr)], [])) := by
 obtain ⟨rfl⟩ := H1
 rw [Qy]
 simp -dsimp only [↓evA, evB, Qo, Tryz.func210, Tryz.f210, QDN, Qqk, TP, TZ, Nat.reduceAdd, Nat.reduceMul, Nat.reduceBEq, Nat.reduceLeDiff, Nat.reduceLT]
 apply VS k i
 intro k i
 simp -dsimp +contextual only [↓evA, eZ, Nat.reduceAdd, Nat.reduceMul, Nat.reduceBEq, Nat.reduceLeDiff, Nat.reduceLT]
 try simp only [JL, eY]
 all_goals rfl
theorem QgJ (a b) {R1 l} [H1 : EncL Vv R1 l] : CP T (n + 2) 210 [.imm 5 R1, .i .i64 a, .i .i64 b] = (QbS l a b).map fun r => .i .i64 r := by
 obtain ⟨rfl⟩ := H1
 rw [Qf]
 simp -dsimp +contextual only [↓evA, eZ, Nat.reduceAdd, Nat.reduceMul, Nat.reduceBEq, Nat.reduceLeDiff, Nat.reduceLT, Tryz.func210, Tryz.f210, QDN, Qqk, QjU]
 try simp only [QbS, eY]
 all_goals rfl
theorem QjZ (a a2) {R1 l} [H1 : EncL Vv R1 l] : LP T (n + 6) 169 3 (frm [(0, .imm 5 R1), (3, .i .i64 a), (4, .i .i64 a2)]) [] =
  Jd (run (QP l) (a, a2)) (fun (zr : Bool) => (XE.ret, frm [(2, .b zr)], [])) (fun (zr : Unit) => (XE.exit 0, frm [(0, .imm 5 (l.map Vv))], [])) := by
 obtain ⟨rfl⟩ := H1
 rw [Qy]
 simp -dsimp only [↓evA, evB, Qo, Tryz.func169, Tryz.f169, QDj, QqY, TP, TZ, Nat.reduceAdd, Nat.reduceMul, Nat.reduceBEq, Nat.reduceLeDiff, Nat.reduceLT]
 apply VS a a2
 intro a a2
 simp -dsimp +contextual only [↓evA, eZ, Nat.reduceAdd, Nat.reduceMul, Nat.reduceBEq, Nat.reduceLeDiff, Nat.reduceLT, QfZ, Xe, QgJ]
 try simp only [QP, eY]
 all_goals rfl
theorem Qeu {R1 l} [H1 : EncL Vv R1 l] : CP T (n + 7) 169 [.imm 5 R1] = (VO l).map fun r => .b r := by
 obtain ⟨rfl⟩ := H1
 rw [Qf]
 simp -dsimp +contextual only [↓evA, eZ, Nat.reduceAdd, Nat.reduceMul, Nat.reduceBEq, Nat.reduceLeDiff, Nat.reduceLT, Tryz.func169, Tryz.f169, QDj, QqY, QjZ]
 try simp only [VO, eY]
 all_goals rfl
theorem Qg0 (i) {R1 l} [H1 : EncL Vk R1 l] : LP T (n + 2) 170 2 (frm [(0, .imm 4 R1), (3, .i .i64 i)]) [] =
  Jd (run (XC l) i) (fun (zr : Bool) => (XE.ret, frm [(2, .b zr)], [])) (fun (zr : Unit) => (XE.exit 0, frm [(0, .imm 4 (l.map Vk))], [])) := by
 obtain ⟨rfl⟩ := H1
 rw [Qy]
 simp -dsimp only [↓evA, evB, Qo, Tryz.func170, Tryz.f170, QDg, Qq7, TP, TZ, Nat.reduceAdd, Nat.reduceMul, Nat.reduceBEq, Nat.reduceLeDiff, Nat.reduceLT]
 apply Qs i
 intro i
 simp -dsimp +contextual only [↓evA, eZ, Nat.reduceAdd, Nat.reduceMul, Nat.reduceBEq, Nat.reduceLeDiff, Nat.reduceLT, Xe]
 try simp only [XC, eY]
 all_goals rfl
theorem QeN {R1 l} [H1 : EncL Vk R1 l] : CP T (n + 3) 170 [.imm 4 R1] = (Xu l).map fun r => .b r := by
 obtain ⟨rfl⟩ := H1
 rw [Qf]
 simp -dsimp +contextual only [↓evA, eZ, Nat.reduceAdd, Nat.reduceMul, Nat.reduceBEq, Nat.reduceLeDiff, Nat.reduceLT, Tryz.func170, Tryz.f170, QDg, Qq7, Qg0]
 try simp only [Xu, eY]
 all_goals rfl
theorem QlB (a k) {R1 l} [H1 : EncL VP R1 l] : LP T (n + 1) 235 2 (frm [(0, .imm 1 R1), (1, .i .i64 a), (5, .i .i64 k)]) [] =
  (run (J2 l a) k).map (fun (zr : Int) => (XE.exit 0, frm [(0, .imm 1 (l.map VP)), (1, .i .i64 a), (5, .i .i64 zr)], [])) := by
 obtain ⟨rfl⟩ := H1
 rw [Qy]
 simp -dsimp only [↓evA, evB, Qo, Tryz.func235, Tryz.f235, QDb, Qqp, TP, TZ, Nat.reduceAdd, Nat.reduceMul, Nat.reduceBEq, Nat.reduceLeDiff, Nat.reduceLT]
 apply Qs k
 intro k
 simp -dsimp +contextual only [↓evA, eZ, Nat.reduceAdd, Nat.reduceMul, Nat.reduceBEq, Nat.reduceLeDiff, Nat.reduceLT]
 try simp only [J2, eY]
 try simp only [List.contains_nil, Bool.not_false, Bool.and_true, VK, List.length_append, List.length_cons, List.length_nil, Nat.zero_add, VL, V0]
 all_goals rfl
theorem QoU (a) {R1 l} [H1 : EncL VP R1 l] : CP T (n + 2) 235 [.imm 1 R1, .i .i64 a] = (QcI l a).map fun r => .own 1 (r.map VP) := by
 obtain ⟨rfl⟩ := H1
 rw [Qf]
 simp -dsimp +contextual only [↓evA, eZ, Nat.reduceAdd, Nat.reduceMul, Nat.reduceBEq, Nat.reduceLeDiff, Nat.reduceLT, Tryz.func235, Tryz.f235, QDb, Qqp, QlB]
 try simp only [QcI, eY]
 try simp only [List.contains_nil, Bool.not_false, Bool.and_true, VK, List.length_append, List.length_cons, List.length_nil, Nat.zero_add, VL, V0]
 all_goals first | rfl | (simp +contextual only [evN] <;> rfl)
theorem QjC (a i) {R1 l R2 o} [H1 : EncL Vv R1 l] [H2 : EncL VP R2 o] : LP T (n + 8) 211 3 (frm [(0, .imm 5 R1), (1, .i .i64 a), (5, .sl 0), (6, .i .i64 i)]) [some (Ent.lst 1 R2)] =
  (run (Zy l a) (o, i)).map (fun (zr : (List Int)) => (XE.exit 0, frm [(5, .sl 0)], [some (Ent.lst 1 (zr.map VP))])) := by
 rcases H1, H2 with ⟨⟨rfl⟩, ⟨rfl⟩⟩
 rw [Qy]
 simp -dsimp only [↓evA, evB, Qo, Tryz.func211, Tryz.f211, QDn, Qqb, TP, TZ, Nat.reduceAdd, Nat.reduceMul, Nat.reduceBEq, Nat.reduceLeDiff, Nat.reduceLT]
 apply VS o i
 intro o i
 simp -dsimp +contextual only [↓evA, eZ, Nat.reduceAdd, Nat.reduceMul, Nat.reduceBEq, Nat.reduceLeDiff, Nat.reduceLT, Qeu, QgJ, QoU]
 try simp only [Zy, eY]
 all_goals rfl
theorem Qm2 (a) {R1 l} [H1 : EncL Vv R1 l] : CP T (n + 9) 211 [.imm 5 R1, .i .i64 a] = (QaI l a).map fun r => .own 1 (r.map VP) := by
 obtain ⟨rfl⟩ := H1
 rw [Qf]
 simp -dsimp +contextual only [↓evA, eZ, Nat.reduceAdd, Nat.reduceMul, Nat.reduceBEq, Nat.reduceLeDiff, Nat.reduceLT, Tryz.func211, Tryz.f211, QDn, Qqb, QjC]
 try simp only [QaI, eY]
 all_goals first | rfl | (simp +contextual only [evN] <;> rfl)
theorem QhK (i i2) {R1 l} [H1 : EncL QE R1 l] : LP T (n + 1) 132 2 (frm [(0, .imm 8 R1), (1, .i .i64 i), (5, .i .i64 i2)]) [] =
  Jd (run (Jx l i) i2) (fun (zr : Int) => (XE.ret, frm [(4, .i .i64 zr)], [])) (fun (zr : Unit) => (XE.exit 0, frm [], [])) := by
 obtain ⟨rfl⟩ := H1
 rw [Qy]
 simp -dsimp only [↓evA, evB, Qo, Tryz.func132, Tryz.f132, QDX, Qrh, TP, TZ, Nat.reduceAdd, Nat.reduceMul, Nat.reduceBEq, Nat.reduceLeDiff, Nat.reduceLT]
 apply Qs i2
 intro i2
 simp -dsimp +contextual only [↓evA, eZ, Nat.reduceAdd, Nat.reduceMul, Nat.reduceBEq, Nat.reduceLeDiff, Nat.reduceLT]
 try simp only [Jx, eY]
 all_goals rfl
theorem Qcb (i) {R1 l} [H1 : EncL QE R1 l] : CP T (n + 2) 132 [.imm 8 R1, .i .i64 i] = (Xh l i).map fun r => .i .i64 r := by
 obtain ⟨rfl⟩ := H1
 rw [Qf]
 simp -dsimp +contextual only [↓evA, eZ, Nat.reduceAdd, Nat.reduceMul, Nat.reduceBEq, Nat.reduceLeDiff, Nat.reduceLT, Tryz.func132, Tryz.f132, QDX, Qrh, QhK]
 try simp only [Xh, eY]
 all_goals rfl
theorem Qj9 (a i) {R1 l} [H1 : EncL QX R1 l] : LP T (n + 1) 129 2 (frm [(0, .imm 3 R1), (1, .i .i64 a), (5, .i .i64 i)]) [] =
  Jd (run (XK l a) i) (fun (zr : Int) => (XE.ret, frm [(4, .i .i64 zr)], [])) (fun (zr : Unit) => (XE.exit 0, frm [], [])) := by
 obtain ⟨rfl⟩ := H1
 rw [Qy]
 simp -dsimp only [↓evA, evB, Qo, Tryz.func129, Tryz.f129, QD3, Qrw, TP, TZ, Nat.reduceAdd, Nat.reduceMul, Nat.reduceBEq, Nat.reduceLeDiff, Nat.reduceLT]
 apply Qs i
 intro i
 simp -dsimp +contextual only [↓evA, eZ, Nat.reduceAdd, Nat.reduceMul, Nat.reduceBEq, Nat.reduceLeDiff, Nat.reduceLT]
 try simp only [XK, eY]
 all_goals rfl
theorem Qdx (a) {R1 l} [H1 : EncL QX R1 l] : CP T (n + 2) 129 [.imm 3 R1, .i .i64 a] = (Jr l a).map fun r => .i .i64 r := by
 obtain ⟨rfl⟩ := H1
 rw [Qf]
 simp -dsimp +contextual only [↓evA, eZ, Nat.reduceAdd, Nat.reduceMul, Nat.reduceBEq, Nat.reduceLeDiff, Nat.reduceLT, Tryz.func129, Tryz.f129, QD3, Qrw, Qj9]
 try simp only [Jr, eY]
 all_goals rfl
theorem Qlm (a i) {R1 l} [H1 : EncL VP R1 l] : LP T (n + 1) 212 2 (frm [(0, .imm 1 R1), (1, .i .i64 a), (5, .i .i64 i)]) [] =
  Jd (run (Qbe l a) i) (fun (zr : Bool) => (XE.ret, frm [(4, .b zr)], [])) (fun (zr : Unit) => (XE.exit 0, frm [], [])) := by
 obtain ⟨rfl⟩ := H1
 rw [Qy]
 simp -dsimp only [↓evA, evB, Qo, Tryz.func212, Tryz.f212, QDE, Qri, TP, TZ, Nat.reduceAdd, Nat.reduceMul, Nat.reduceBEq, Nat.reduceLeDiff, Nat.reduceLT]
 apply Qs i
 intro i
 simp -dsimp +contextual only [↓evA, eZ, Nat.reduceAdd, Nat.reduceMul, Nat.reduceBEq, Nat.reduceLeDiff, Nat.reduceLT]
 try simp only [Qbe, eY]
 all_goals rfl
theorem QoR (a) {R1 l} [H1 : EncL VP R1 l] : CP T (n + 2) 212 [.imm 1 R1, .i .i64 a] = (Qen l a).map fun r => .b r := by
 obtain ⟨rfl⟩ := H1
 rw [Qf]
 simp -dsimp +contextual only [↓evA, eZ, Nat.reduceAdd, Nat.reduceMul, Nat.reduceBEq, Nat.reduceLeDiff, Nat.reduceLT, Tryz.func212, Tryz.f212, QDE, Qri, Qlm]
 try simp only [Qen, eY]
 all_goals rfl
theorem Qhq (a3) {R1 a R2 a2} [H1 : EncR QV R1 a] [H2 : EncL VP R2 a2] : LP T (n + 3) 171 5 (frm [(1, .ptr 0 0 0), (3, .sl 1), (4, .i .i64 a3)]) [some (Ent.box R1), some (Ent.lst 1 R2)] =
  Jd (run (XP a a2) a3) (fun (zr : Bool) => (XE.ret, frm [(2, .b zr)], [])) (fun (zr : Unit) => (XE.exit 0, frm [(1, .ptr 0 0 0), (3, .sl 1)], [some (Ent.box (QV a)), some (Ent.lst 1 (a2.map VP))])) := by
 rcases H1, H2 with ⟨⟨rfl⟩, ⟨rfl⟩⟩
 rw [Qy]
 simp -dsimp only [↓evA, evB, Qo, Tryz.func171, Tryz.f171, Quu, QmJ, TP, TZ, Nat.reduceAdd, Nat.reduceMul, Nat.reduceBEq, Nat.reduceLeDiff, Nat.reduceLT]
 apply Qs a3
 intro a3
 simp -dsimp +contextual (maxSteps := 100000000) only [↓evA, eZ, Nat.reduceAdd, Nat.reduceMul, Nat.reduceBEq, Nat.reduceLeDiff, Nat.reduceLT, Qcb]
 try simp only [XP, eY]
 all_goals rfl
theorem QgG (a3) {R1 a R2 a2} [H1 : EncR QV R1 a] [H2 : EncL VP R2 a2] : LP T (n + 3) 171 10 (frm [(1, .ptr 0 0 0), (3, .sl 1), (5, .i .i64 a3)]) [some (Ent.box R1), some (Ent.lst 1 R2)] =
  Jd (run (XB a a2) a3) (fun (zr : Bool) => (XE.ret, frm [(2, .b zr)], [])) (fun (zr : Unit) => (XE.exit 2, frm [(1, .ptr 0 0 0)], [some (Ent.box (QV a))])) := by
 rcases H1, H2 with ⟨⟨rfl⟩, ⟨rfl⟩⟩
 rw [Qy]
 simp -dsimp only [↓evA, evB, Qo, Tryz.func171, Tryz.f171, Quu, QmJ, TP, TZ, Nat.reduceAdd, Nat.reduceMul, Nat.reduceBEq, Nat.reduceLeDiff, Nat.reduceLT]
 apply Qs a3
 intro a3
 simp -dsimp +contextual (maxSteps := 100000000) only [↓evA, eZ, Nat.reduceAdd, Nat.reduceMul, Nat.reduceBEq, Nat.reduceLeDiff, Nat.reduceLT, Qdx, QoR]
 try simp only [XB, eY]
 all_goals rfl
theorem QgF (a2) {R1 a} [H1 : EncR QV R1 a] : LP T (n + 3) 171 16 (frm [(1, .ptr 0 0 0), (7, .i .i64 a2)]) [some (Ent.box R1)] =
  Jd (run (VD a) a2) (fun (zr : Bool) => (XE.ret, frm [(2, .b zr)], [])) (fun (zr : Unit) => (XE.exit 4, frm [], [])) := by
 obtain ⟨rfl⟩ := H1
 rw [Qy]
 simp -dsimp only [↓evA, evB, Qo, Tryz.func171, Tryz.f171, Quu, QmJ, TP, TZ, Nat.reduceAdd, Nat.reduceMul, Nat.reduceBEq, Nat.reduceLeDiff, Nat.reduceLT]
 apply Qs a2
 intro a2
 simp -dsimp +contextual (maxSteps := 100000000) only [↓evA, eZ, Nat.reduceAdd, Nat.reduceMul, Nat.reduceBEq, Nat.reduceLeDiff, Nat.reduceLT, Qcb]
 try simp only [VD, eY]
 all_goals rfl
theorem Qkh {R1 a} [H1 : EncR QV R1 a] : CP T (n + 10) 171 [.agg R1] = (Jn a).map fun r => .b r := by
 obtain ⟨rfl⟩ := H1
 rw [Qf]
 simp -dsimp +contextual (maxSteps := 100000000) only [↓evA, eZ, Nat.reduceAdd, Nat.reduceMul, Nat.reduceBEq, Nat.reduceLeDiff, Nat.reduceLT, Tryz.func171, Tryz.f171, Quu, QmJ, Qm2, Qhq, QgG, QgF]
 try simp only [Jn, eY]
 all_goals rfl
theorem QgM {R1 a} [H1 : EncR QS R1 a] : CP T (n + 2) 188 [.agg R1] = (QaS a).map fun r => .b r := by
 obtain ⟨rfl⟩ := H1
 rw [Qf]
 simp -dsimp +contextual only [↓evA, eZ, Nat.reduceAdd, Nat.reduceMul, Nat.reduceBEq, Nat.reduceLeDiff, Nat.reduceLT, Tryz.func188, Tryz.f188, QIA, Que, Xe]
 try simp only [QaS, eY]
 all_goals rfl
theorem Qjk (a i) {R1 l} [H1 : EncL Q4 R1 l] : LP T (n + 1) 186 2 (frm [(0, .imm 3 R1), (1, .i .i64 a), (5, .i .i64 i)]) [] =
  Jd (run (ZI l a) i) (fun (zr : Int) => (XE.ret, frm [(4, .i .i64 zr)], [])) (fun (zr : Unit) => (XE.exit 0, frm [], [])) := by
 obtain ⟨rfl⟩ := H1
 rw [Qy]
 simp -dsimp only [↓evA, evB, Qo, Tryz.func186, Tryz.f186, QDs, QqB, TP, TZ, Nat.reduceAdd, Nat.reduceMul, Nat.reduceBEq, Nat.reduceLeDiff, Nat.reduceLT]
 apply Qs i
 intro i
 simp -dsimp +contextual only [↓evA, eZ, Nat.reduceAdd, Nat.reduceMul, Nat.reduceBEq, Nat.reduceLeDiff, Nat.reduceLT]
 try simp only [ZI, eY]
 all_goals rfl
theorem Qnp (a) {R1 l} [H1 : EncL Q4 R1 l] : CP T (n + 2) 186 [.imm 3 R1, .i .i64 a] = (Qd3 l a).map fun r => .i .i64 r := by
 obtain ⟨rfl⟩ := H1
 rw [Qf]
 simp -dsimp +contextual only [↓evA, eZ, Nat.reduceAdd, Nat.reduceMul, Nat.reduceBEq, Nat.reduceLeDiff, Nat.reduceLT, Tryz.func186, Tryz.f186, QDs, QqB, Qjk]
 try simp only [Qd3, eY]
 all_goals rfl
theorem Qel (a) {R1 l} [H1 : EncL Q4 R1 l] : CP T (n + 3) 139 [.imm 3 R1, .i .i64 a] = (QaK l a).map fun r => .own 2 (r.map Vp) := by
 obtain ⟨rfl⟩ := H1
 rw [Qf]
 simp -dsimp +contextual only [↓evA, eZ, Nat.reduceAdd, Nat.reduceMul, Nat.reduceBEq, Nat.reduceLeDiff, Nat.reduceLT, Tryz.func139, Tryz.f139, QHU, Qt1, Qnp]
 try simp only [QaK, eY]
 all_goals first | rfl | (simp +contextual only [evN] <;> rfl)
theorem QiG (a b) : CP T (n + 1) 124 [.i .i64 a, .i .i64 b] = (Qc6 a b).map fun r => .i .i64 r := by
 rw [Qf]
 simp -dsimp +contextual only [↓evA, eZ, Nat.reduceAdd, Nat.reduceMul, Nat.reduceBEq, Nat.reduceLeDiff, Nat.reduceLT, Tryz.func124, Tryz.f124, QMZ, QtL]
 try simp only [Qc6, eY]
 all_goals rfl
theorem Ql3 {R1 l} [H1 : EncL Vp R1 l] : CP T (n + 2) 189 [.imm 2 R1] = (QcW l).map fun r => .i .i64 r := by
 obtain ⟨rfl⟩ := H1
 rw [Qf]
 simp -dsimp +contextual only [↓evA, eZ, Nat.reduceAdd, Nat.reduceMul, Nat.reduceBEq, Nat.reduceLeDiff, Nat.reduceLT, Tryz.func189, Tryz.f189, QMN, Qt3, QiG]
 try simp only [QcW, eY]
 all_goals rfl
theorem Qdc {R1 l R2 a} [H1 : EncL Vp R1 l] [H2 : EncR QS R2 a] : CP T (n + 4) 143 [.imm 2 R1, .agg R2] = (JD l a).map fun r => .i .i64 r := by
 rcases H1, H2 with ⟨⟨rfl⟩, ⟨rfl⟩⟩
 rw [Qf]
 simp -dsimp +contextual only [↓evA, eZ, Nat.reduceAdd, Nat.reduceMul, Nat.reduceBEq, Nat.reduceLeDiff, Nat.reduceLT, Tryz.func143, Tryz.f143, QKR, Qtf, QgM, QcA, Ql3]
 try simp only [JD, eY]
 all_goals rfl
theorem Qhz (a2) {R1 a} [H1 : EncR QV R1 a] : LP T (n + 5) 172 4 (frm [(1, .ptr 0 0 0), (3, .i .i64 a2)]) [some (Ent.box R1)] =
  Jd (run (JA a) a2) (fun (zr : Bool) => (XE.ret, frm [(2, .b zr)], [])) (fun (zr : Unit) => (XE.exit 0, frm [], [])) := by
 obtain ⟨rfl⟩ := H1
 rw [Qy]
 simp -dsimp only [↓evA, evB, Qo, Tryz.func172, Tryz.f172, QDt, Qqs, TP, TZ, Nat.reduceAdd, Nat.reduceMul, Nat.reduceBEq, Nat.reduceLeDiff, Nat.reduceLT]
 apply Qs a2
 intro a2
 simp -dsimp +contextual (maxSteps := 100000000) only [↓evA, eZ, Nat.reduceAdd, Nat.reduceMul, Nat.reduceBEq, Nat.reduceLeDiff, Nat.reduceLT, Qcb, QgM, Qel, Qdc]
 try simp only [JA, eY]
 all_goals rfl
theorem QkT {R1 a} [H1 : EncR QV R1 a] : CP T (n + 6) 172 [.agg R1] = (Jm a).map fun r => .b r := by
 obtain ⟨rfl⟩ := H1
 rw [Qf]
 simp -dsimp +contextual (maxSteps := 100000000) only [↓evA, eZ, Nat.reduceAdd, Nat.reduceMul, Nat.reduceBEq, Nat.reduceLeDiff, Nat.reduceLT, Tryz.func172, Tryz.f172, QDt, Qqs, Qhz]
 try simp only [Jm, eY]
 all_goals rfl
theorem Qdg {R1 a} [H1 : EncR QV R1 a] : CP T (n + 11) 109 [.agg R1] = (Q8 a).map fun r => .b r := by
 obtain ⟨rfl⟩ := H1
 rw [Qf]
 simp -dsimp +contextual (maxSteps := 100000000) only [↓evA, eZ, Nat.reduceAdd, Nat.reduceMul, Nat.reduceBEq, Nat.reduceLeDiff, Nat.reduceLT, Tryz.func109, Tryz.f109, QJj, Qth, Xe, Qf1, QeM, QdW, Qdu, Qeu, QeN, Qkh, QkT]
 try simp only [Q8, eY]
 all_goals rfl
theorem Qht (a i) {R1 l} [H1 : EncL QX R1 l] : LP T (n + 1) 110 3 (frm [(0, .imm 3 R1), (3, .i .i64 a), (4, .i .i64 i)]) [] =
  (run (XO l) (a, i)).map (fun (zr : Int) => (XE.exit 0, frm [(3, .i .i64 zr)], [])) := by
 obtain ⟨rfl⟩ := H1
 rw [Qy]
 simp -dsimp only [↓evA, evB, Qo, Tryz.func110, Tryz.f110, QDm, Qq3, TP, TZ, Nat.reduceAdd, Nat.reduceMul, Nat.reduceBEq, Nat.reduceLeDiff, Nat.reduceLT]
 apply VS a i
 intro a i
 simp -dsimp +contextual only [↓evA, eZ, Nat.reduceAdd, Nat.reduceMul, Nat.reduceBEq, Nat.reduceLeDiff, Nat.reduceLT]
 try simp only [XO, eY]
 all_goals rfl
theorem QkA {R1 l} [H1 : EncL QX R1 l] : CP T (n + 2) 110 [.imm 3 R1] = (Qbx l).map fun r => .i .i64 r := by
 obtain ⟨rfl⟩ := H1
 rw [Qf]
 simp -dsimp +contextual only [↓evA, eZ, Nat.reduceAdd, Nat.reduceMul, Nat.reduceBEq, Nat.reduceLeDiff, Nat.reduceLT, Tryz.func110, Tryz.f110, QDm, Qq3, Qht]
 try simp only [Qbx, eY]
 all_goals rfl
theorem Qf8 (a) {R1 s} [H1 : EncL QX R1 s] : CP T (n + 12) 51 [.i .i64 a, .imm 3 R1] = (Qbk a s).map fun r => .tup [.agg (VU r.1), .b r.2] := by
 obtain ⟨rfl⟩ := H1
 rw [Qf]
 simp -dsimp +contextual only [↓evA, eZ, Nat.reduceAdd, Nat.reduceMul, Nat.reduceBEq, Nat.reduceLeDiff, Nat.reduceLT, Tryz.func51, Tryz.f51, QU4, QAC, Jo, Qdg, QkA]
 try simp only [Qbk, eY]
 all_goals rfl
theorem Qlh {R1 c} [H1 : EncR QK R1 c] : CA T (n + 13) 17 [some (Ent.box R1)] [.ptr 0 0 0] = (Qcu c).map fun r => (.agg [.i .i64 r.2.No, .sl 1, .sl 2, .sl 3, .sl 4, .sl 5, .sl 6, .sl 7, .i .i64 r.2.Now], [some (Ent.box (QK r.1)), some (Ent.lst 8 (r.2.Finds.map QE)), some (Ent.lst 3 (r.2.Secrets.map QB)), some (Ent.lst 3 (r.2.Slots.map QX)), some (Ent.lst 5 (r.2.Claims.map Qj)), some (Ent.lst 4 (r.2.Trials.map QS)), some (Ent.lst 5 (r.2.Chain.map Vv)), some (Ent.lst 4 (r.2.Book.map Vk))]) := by
 obtain ⟨rfl⟩ := H1
 rw [Qa2]
 simp -dsimp +contextual (maxSteps := 100000000) only [↓evA, eZ, Nat.reduceAdd, Nat.reduceMul, Nat.reduceBEq, Nat.reduceLeDiff, Nat.reduceLT, Tryz.func17, Tryz.f17, QVu, QBD, srt, Qz, Qf3, Qf8]
 try simp only [Qcu, eY]
 all_goals rfl
theorem QhV (i) {R1 c} [H1 : EncR QK R1 c] : CA T (n + 3) 122 [some (Ent.box R1)] [.ptr 0 0 0, .i .i64 i] = (QcO c i).map fun r => (.agg (Qbm r.2), [some (Ent.box (QK r.1))]) := by
 obtain ⟨rfl⟩ := H1
 rw [Qa2]
 simp -dsimp +contextual (maxSteps := 100000000) only [↓evA, eZ, Nat.reduceAdd, Nat.reduceMul, Nat.reduceBEq, Nat.reduceLeDiff, Nat.reduceLT, Tryz.func122, Tryz.f122, QIj, QtV, srt, Qz]
 try simp only [QcO, eY]
 all_goals rfl
theorem Qe9 (i) {R1 c} [H1 : EncR QK R1 c] : CA T (n + 4) 111 [some (Ent.box R1)] [.ptr 0 0 0, .i .i64 i] = (Qbw c i).map fun r => (.agg (QE r.2), [some (Ent.box (QK r.1))]) := by
 obtain ⟨rfl⟩ := H1
 rw [Qa2]
 simp -dsimp +contextual (maxSteps := 100000000) only [↓evA, eZ, Nat.reduceAdd, Nat.reduceMul, Nat.reduceBEq, Nat.reduceLeDiff, Nat.reduceLT, Tryz.func111, Tryz.f111, QOc, QuU, srt, QhV, Qz]
 try simp only [Qbw, eY]
 all_goals rfl
theorem Xx {R1 c R2 l} [H1 : EncR QK R1 c] [H2 : EncL VP R2 l] : CA T (n + 3) 79 [some (Ent.box R1), some (Ent.lst 1 R2)] [.ptr 0 0 0, .sl 1] = (QU c l).map fun r => (.i .i64 r.2, [some (Ent.box (QK r.1)), some (Ent.lst 1 (l.map VP))]) := by
 rcases H1, H2 with ⟨⟨rfl⟩, ⟨rfl⟩⟩
 rw [Qa2]
 simp -dsimp +contextual (maxSteps := 100000000) only [↓evA, eZ, Nat.reduceAdd, Nat.reduceMul, Nat.reduceBEq, Nat.reduceLeDiff, Nat.reduceLT, Tryz.func79, Tryz.f79, QRT, QCG, srt, Qz]
 try simp only [QU, eY]
 all_goals rfl
theorem QgK (i) {R1 c} [H1 : EncR QK R1 c] : CA T (n + 5) 53 [some (Ent.box R1)] [.ptr 0 0 0, .i .i64 i] = (QaQ c i).map fun r => (.agg [.i .i64 r.2.Kind, .i .i64 r.2.Find.Thing.Id, .i .i64 r.2.Find.Thing.Kind, .i .i64 r.2.Find.Thing.Colour, .i .i64 r.2.Find.Thing.Size, .i .i64 r.2.Find.Thing.Worth, .i .i64 r.2.Find.Place, .i .i64 r.2.Find.At, .i .i64 r.2.Find.Finder, .sl 1, .i .i64 r.2.Id, .i .i64 r.2.Who, .i .i64 r.2.N, .sl 2], [some (Ent.box (QK r.1)), some (Ent.lst 2 (r.2.Marks.map Vp)), some (Ent.lst 3 (r.2.Bids.map Ju))]) := by
 obtain ⟨rfl⟩ := H1
 rw [Qa2]
 simp -dsimp +contextual (maxSteps := 100000000) only [↓evA, eZ, Nat.reduceAdd, Nat.reduceMul, Nat.reduceBEq, Nat.reduceLeDiff, Nat.reduceLT, Tryz.func53, Tryz.f53, QT2, QAd, srt, Qe9, Qz, Xx]
 try simp only [QaQ, eY]
 all_goals rfl
theorem Ql2 (s w c) : CP T (n + 5) 144 [.i .i64 s, .i .i64 w, .i .i64 c] = (Qdk s w c).map fun r => .i .i64 r := by
 rw [Qf]
 simp -dsimp +contextual only [↓evA, eZ, Nat.reduceAdd, Nat.reduceMul, Nat.reduceBEq, Nat.reduceLeDiff, Nat.reduceLT, Tryz.func144, Tryz.f144, QN9, QtH, Qgr]
 try simp only [Qdk, eY]
 all_goals rfl
theorem Qkm (i) {R1 c R2 l} [H1 : EncR QK R1 c] [H2 : EncL Ju R2 l] : LP T (n + 6) 88 3 (frm [(0, .ptr 0 0 0), (3, .sl 1), (4, .i .i64 i)]) [some (Ent.box R1), some (Ent.lst 3 R2)] =
  (run Qaz (c, l, i)).map (fun (zr : l1Cur × (List Bid)) => (XE.exit 0, frm [(0, .ptr 0 0 0), (3, .sl 1)], [some (Ent.box (QK zr.1)), some (Ent.lst 3 (zr.2.map Ju))])) := by
 rcases H1, H2 with ⟨⟨rfl⟩, ⟨rfl⟩⟩
 rw [Qy]
 simp -dsimp only [↓evA, evB, Qo, Tryz.func88, Tryz.f88, QLU, QwU, TP, TZ, Nat.reduceAdd, Nat.reduceMul, Nat.reduceBEq, Nat.reduceLeDiff, Nat.reduceLT]
 apply Qcp c l i
 intro c l i
 simp -dsimp +contextual only [↓evA, eZ, Nat.reduceAdd, Nat.reduceMul, Nat.reduceBEq, Nat.reduceLeDiff, Nat.reduceLT, srt, Qz, Ql2]
 try simp only [Qaz, eY]
 all_goals rfl
theorem QnO {R1 c} [H1 : EncR QK R1 c] : CA T (n + 7) 88 [some (Ent.box R1)] [.ptr 0 0 0] = (QdK c).map fun r => (.sl 1, [some (Ent.box (QK r.1)), some (Ent.lst 3 (r.2.map Ju))]) := by
 obtain ⟨rfl⟩ := H1
 rw [Qa2]
 simp -dsimp +contextual (maxSteps := 100000000) only [↓evA, eZ, Nat.reduceAdd, Nat.reduceMul, Nat.reduceBEq, Nat.reduceLeDiff, Nat.reduceLT, Tryz.func88, Tryz.f88, QLU, QwU, srt, Qz, Xx, Qkm]
 try simp only [QdK, eY]
 all_goals rfl
end Go.Proofs.YtponohekgnklkaaGreat
