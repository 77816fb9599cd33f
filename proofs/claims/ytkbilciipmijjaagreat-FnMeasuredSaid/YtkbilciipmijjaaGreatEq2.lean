import Derived.Test.YtkbilciipmijjaaGreatEq1
namespace Go.Proofs.YtkbilciipmijjaaGreat
open Go Go.Proofs Go.Proofs.YtkbilciipmijjaaGreat.Am
set_option maxHeartbeats 4000000
set_option linter.unusedVariables false
set_option linter.unusedSimpArgs false
set_option linter.defProp false
set_option maxRecDepth 100000
variable (n : Nat)
theorem Qjv (a i) {R1 l} [H1 : EncL Vm R1 l] : LP T (n + 1) 188 2 (frm [(0, .imm 1 R1), (1, .i .i64 a), (5, .i .i64 i)]) [] =
  Zs (run (Qah l a) i) (fun (zr : Bool) => (XE.ret, frm [(4, .b zr)], [])) (fun (zr : Unit) => (XE.exit 0, frm [], [])) := by
 obtain ⟨rfl⟩ := H1
 rw [QA]
 simp -dsimp only [↓evA, evB, Qm, Tryz.func188, Tryz.f188, QAF, QpH, TP, TZ, Nat.reduceAdd, Nat.reduceMul, Nat.reduceBEq, Nat.reduceLeDiff, Nat.reduceLT]
 apply Qu i
 intro i
 simp -dsimp +contextual only [↓evA, eZ, Nat.reduceAdd, Nat.reduceMul, Nat.reduceBEq, Nat.reduceLeDiff, Nat.reduceLT]
 try simp only [Qah, eY]
 all_goals rfl
theorem QnK (a) {R1 l} [H1 : EncL Vm R1 l] : CP T (n + 2) 188 [.imm 1 R1, .i .i64 a] = (Qc4 l a).map fun r => .b r := by
 obtain ⟨rfl⟩ := H1
 rw [Qi]
 simp -dsimp +contextual only [↓evA, eZ, Nat.reduceAdd, Nat.reduceMul, Nat.reduceBEq, Nat.reduceLeDiff, Nat.reduceLT, Tryz.func188, Tryz.f188, QAF, QpH, Qjv]
 try simp only [Qc4, eY]
 all_goals rfl
theorem Qgr (a3) {R1 a R2 a2} [H1 : EncR Va R1 a] [H2 : EncL Vm R2 a2] : LP T (n + 3) 119 5 (frm [(1, .ptr 0 0 0), (3, .sl 1), (4, .i .i64 a3)]) [some (Ent.box R1), some (Ent.lst 1 R2)] =
  Zs (run (Je a a2) a3) (fun (zr : Bool) => (XE.ret, frm [(2, .b zr)], [])) (fun (zr : Unit) => (XE.exit 0, frm [(1, .ptr 0 0 0), (3, .sl 1)], [some (Ent.box (Va a)), some (Ent.lst 1 (a2.map Vm))])) := by
 rcases H1, H2 with ⟨⟨rfl⟩, ⟨rfl⟩⟩
 rw [QA]
 simp -dsimp only [↓evA, evB, Qm, Tryz.func119, Tryz.f119, QsQ, Qk0, TP, TZ, Nat.reduceAdd, Nat.reduceMul, Nat.reduceBEq, Nat.reduceLeDiff, Nat.reduceLT]
 apply Qu a3
 intro a3
 simp -dsimp +contextual (maxSteps := 100000000) only [↓evA, eZ, Nat.reduceAdd, Nat.reduceMul, Nat.reduceBEq, Nat.reduceLeDiff, Nat.reduceLT, JQ]
 try simp only [Je, eY]
 all_goals rfl
theorem QfD (a3) {R1 a R2 a2} [H1 : EncR Va R1 a] [H2 : EncL Vm R2 a2] : LP T (n + 3) 119 10 (frm [(1, .ptr 0 0 0), (3, .sl 1), (5, .i .i64 a3)]) [some (Ent.box R1), some (Ent.lst 1 R2)] =
  Zs (run (XK a a2) a3) (fun (zr : Bool) => (XE.ret, frm [(2, .b zr)], [])) (fun (zr : Unit) => (XE.exit 2, frm [(1, .ptr 0 0 0)], [some (Ent.box (Va a))])) := by
 rcases H1, H2 with ⟨⟨rfl⟩, ⟨rfl⟩⟩
 rw [QA]
 simp -dsimp only [↓evA, evB, Qm, Tryz.func119, Tryz.f119, QsQ, Qk0, TP, TZ, Nat.reduceAdd, Nat.reduceMul, Nat.reduceBEq, Nat.reduceLeDiff, Nat.reduceLT]
 apply Qu a3
 intro a3
 simp -dsimp +contextual (maxSteps := 100000000) only [↓evA, eZ, Nat.reduceAdd, Nat.reduceMul, Nat.reduceBEq, Nat.reduceLeDiff, Nat.reduceLT, Qch, QnK]
 try simp only [XK, eY]
 all_goals rfl
theorem Qfj (a2) {R1 a} [H1 : EncR Va R1 a] : LP T (n + 3) 119 16 (frm [(1, .ptr 0 0 0), (7, .i .i64 a2)]) [some (Ent.box R1)] =
  Zs (run (XU a) a2) (fun (zr : Bool) => (XE.ret, frm [(2, .b zr)], [])) (fun (zr : Unit) => (XE.exit 4, frm [], [])) := by
 obtain ⟨rfl⟩ := H1
 rw [QA]
 simp -dsimp only [↓evA, evB, Qm, Tryz.func119, Tryz.f119, QsQ, Qk0, TP, TZ, Nat.reduceAdd, Nat.reduceMul, Nat.reduceBEq, Nat.reduceLeDiff, Nat.reduceLT]
 apply Qu a2
 intro a2
 simp -dsimp +contextual (maxSteps := 100000000) only [↓evA, eZ, Nat.reduceAdd, Nat.reduceMul, Nat.reduceBEq, Nat.reduceLeDiff, Nat.reduceLT, JQ]
 try simp only [XU, eY]
 all_goals rfl
theorem QiR {R1 a} [H1 : EncR Va R1 a] : CP T (n + 10) 119 [.agg R1] = (ZD a).map fun r => .b r := by
 obtain ⟨rfl⟩ := H1
 rw [Qi]
 simp -dsimp +contextual (maxSteps := 100000000) only [↓evA, eZ, Nat.reduceAdd, Nat.reduceMul, Nat.reduceBEq, Nat.reduceLeDiff, Nat.reduceLT, Tryz.func119, Tryz.f119, QsQ, Qk0, QlC, Qgr, QfD, Qfj]
 try simp only [ZD, eY]
 all_goals rfl
theorem QfA {R1 a} [H1 : EncR Xk R1 a] : CP T (n + 2) 189 [.agg R1] = (Z2 a).map fun r => .b r := by
 obtain ⟨rfl⟩ := H1
 rw [Qi]
 simp -dsimp +contextual only [↓evA, eZ, Nat.reduceAdd, Nat.reduceMul, Nat.reduceBEq, Nat.reduceLeDiff, Nat.reduceLT, Tryz.func189, Tryz.f189, QFE, Qry, Ve]
 try simp only [Z2, eY]
 all_goals rfl
theorem Qik (a i) {R1 l} [H1 : EncL VA R1 l] : LP T (n + 1) 261 2 (frm [(0, .imm 3 R1), (1, .i .i64 a), (5, .i .i64 i)]) [] =
  Zs (run (J7 l a) i) (fun (zr : Int) => (XE.ret, frm [(4, .i .i64 zr)], [])) (fun (zr : Unit) => (XE.exit 0, frm [], [])) := by
 obtain ⟨rfl⟩ := H1
 rw [QA]
 simp -dsimp only [↓evA, evB, Qm, Tryz.func261, Tryz.f261, QAg, QoB, TP, TZ, Nat.reduceAdd, Nat.reduceMul, Nat.reduceBEq, Nat.reduceLeDiff, Nat.reduceLT]
 apply Qu i
 intro i
 simp -dsimp +contextual only [↓evA, eZ, Nat.reduceAdd, Nat.reduceMul, Nat.reduceBEq, Nat.reduceLeDiff, Nat.reduceLT]
 try simp only [J7, eY]
 all_goals rfl
theorem Qlp (a) {R1 l} [H1 : EncL VA R1 l] : CP T (n + 2) 261 [.imm 3 R1, .i .i64 a] = (QcP l a).map fun r => .i .i64 r := by
 obtain ⟨rfl⟩ := H1
 rw [Qi]
 simp -dsimp +contextual only [↓evA, eZ, Nat.reduceAdd, Nat.reduceMul, Nat.reduceBEq, Nat.reduceLeDiff, Nat.reduceLT, Tryz.func261, Tryz.f261, QAg, QoB, Qik]
 try simp only [QcP, eY]
 all_goals rfl
theorem Qe5 (a) {R1 l} [H1 : EncL VA R1 l] : CP T (n + 3) 191 [.imm 3 R1, .i .i64 a] = (QaI l a).map fun r => .own 2 (r.map Xt) := by
 obtain ⟨rfl⟩ := H1
 rw [Qi]
 simp -dsimp +contextual only [↓evA, eZ, Nat.reduceAdd, Nat.reduceMul, Nat.reduceBEq, Nat.reduceLeDiff, Nat.reduceLT, Tryz.func191, Tryz.f191, QGL, QrC, Qlp]
 try simp only [QaI, eY]
 all_goals first | rfl | (simp +contextual only [evN] <;> rfl)
theorem QkR (a b) : CP T (n + 1) 176 [.i .i64 a, .i .i64 b] = (QdW a b).map fun r => .i .i64 r := by
 rw [Qi]
 simp -dsimp +contextual only [↓evA, eZ, Nat.reduceAdd, Nat.reduceMul, Nat.reduceBEq, Nat.reduceLeDiff, Nat.reduceLT, Tryz.func176, Tryz.f176, QII, QsH]
 try simp only [QdW, eY]
 all_goals rfl
theorem QlB {R1 l} [H1 : EncL Xt R1 l] : CP T (n + 2) 260 [.imm 2 R1] = (QbN l).map fun r => .i .i64 r := by
 obtain ⟨rfl⟩ := H1
 rw [Qi]
 simp -dsimp +contextual only [↓evA, eZ, Nat.reduceAdd, Nat.reduceMul, Nat.reduceBEq, Nat.reduceLeDiff, Nat.reduceLT, Tryz.func260, Tryz.f260, QI9, Qrv, QkR]
 try simp only [QbN, eY]
 all_goals rfl
theorem Qb2 {R1 l R2 a} [H1 : EncL Xt R1 l] [H2 : EncR Xk R2 a] : CP T (n + 4) 190 [.imm 2 R1, .agg R2] = (Jn l a).map fun r => .i .i64 r := by
 rcases H1, H2 with ⟨⟨rfl⟩, ⟨rfl⟩⟩
 rw [Qi]
 simp -dsimp +contextual only [↓evA, eZ, Nat.reduceAdd, Nat.reduceMul, Nat.reduceBEq, Nat.reduceLeDiff, Nat.reduceLT, Tryz.func190, Tryz.f190, QJ4, QrX, QfA, QcF, QlB]
 try simp only [Jn, eY]
 all_goals rfl
theorem Qgj (a2) {R1 a} [H1 : EncR Va R1 a] : LP T (n + 5) 120 4 (frm [(1, .ptr 0 0 0), (3, .i .i64 a2)]) [some (Ent.box R1)] =
  Zs (run (Vo a) a2) (fun (zr : Bool) => (XE.ret, frm [(2, .b zr)], [])) (fun (zr : Unit) => (XE.exit 0, frm [], [])) := by
 obtain ⟨rfl⟩ := H1
 rw [QA]
 simp -dsimp only [↓evA, evB, Qm, Tryz.func120, Tryz.f120, Qz3, Qoo, TP, TZ, Nat.reduceAdd, Nat.reduceMul, Nat.reduceBEq, Nat.reduceLeDiff, Nat.reduceLT]
 apply Qu a2
 intro a2
 simp -dsimp +contextual (maxSteps := 100000000) only [↓evA, eZ, Nat.reduceAdd, Nat.reduceMul, Nat.reduceBEq, Nat.reduceLeDiff, Nat.reduceLT, JQ, QfA, Qe5, Qb2]
 try simp only [Vo, eY]
 all_goals rfl
theorem QiS {R1 a} [H1 : EncR Va R1 a] : CP T (n + 6) 120 [.agg R1] = (Xr a).map fun r => .b r := by
 obtain ⟨rfl⟩ := H1
 rw [Qi]
 simp -dsimp +contextual (maxSteps := 100000000) only [↓evA, eZ, Nat.reduceAdd, Nat.reduceMul, Nat.reduceBEq, Nat.reduceLeDiff, Nat.reduceLT, Tryz.func120, Tryz.f120, Qz3, Qoo, Qgj]
 try simp only [Xr, eY]
 all_goals rfl
theorem ZA {R1 a} [H1 : EncR Va R1 a] : CP T (n + 11) 52 [.agg R1] = (Vr a).map fun r => .b r := by
 obtain ⟨rfl⟩ := H1
 rw [Qi]
 simp -dsimp +contextual (maxSteps := 100000000) only [↓evA, eZ, Nat.reduceAdd, Nat.reduceMul, Nat.reduceBEq, Nat.reduceLeDiff, Nat.reduceLT, Tryz.func52, Tryz.f52, QM7, Qzg, Ve, Qcz, Qdj, QcH, Qb9, Qc2, QdB, QiR, QiS]
 try simp only [Vr, eY]
 all_goals rfl
theorem Qgo (a i) {R1 l} [H1 : EncL Vi R1 l] : LP T (n + 1) 234 3 (frm [(0, .imm 3 R1), (3, .i .i64 a), (4, .i .i64 i)]) [] =
  (run (Xu l) (a, i)).map (fun (zr : Int) => (XE.exit 0, frm [(3, .i .i64 zr)], [])) := by
 obtain ⟨rfl⟩ := H1
 rw [QA]
 simp -dsimp only [↓evA, evB, Qm, Tryz.func234, Tryz.f234, QAh, Qod, TP, TZ, Nat.reduceAdd, Nat.reduceMul, Nat.reduceBEq, Nat.reduceLeDiff, Nat.reduceLT]
 apply Vg a i
 intro a i
 simp -dsimp +contextual only [↓evA, eZ, Nat.reduceAdd, Nat.reduceMul, Nat.reduceBEq, Nat.reduceLeDiff, Nat.reduceLT]
 try simp only [Xu, eY]
 all_goals rfl
theorem Qi3 {R1 l} [H1 : EncL Vi R1 l] : CP T (n + 2) 234 [.imm 3 R1] = (Qat l).map fun r => .i .i64 r := by
 obtain ⟨rfl⟩ := H1
 rw [Qi]
 simp -dsimp +contextual only [↓evA, eZ, Nat.reduceAdd, Nat.reduceMul, Nat.reduceBEq, Nat.reduceLeDiff, Nat.reduceLT, Tryz.func234, Tryz.f234, QAh, Qod, Qgo]
 try simp only [Qat, eY]
 all_goals rfl
theorem QjP (a) {R1 s} [H1 : EncL Vi R1 s] : CP T (n + 12) 152 [.i .i64 a, .imm 3 R1] = (Qbe a s).map fun r => .tup [.agg (JC r.1), .b r.2] := by
 obtain ⟨rfl⟩ := H1
 rw [Qi]
 simp -dsimp +contextual only [↓evA, eZ, Nat.reduceAdd, Nat.reduceMul, Nat.reduceBEq, Nat.reduceLeDiff, Nat.reduceLT, Tryz.func152, Tryz.f152, QJj, QrK, Vu, ZA, Qi3]
 try simp only [Qbe, eY]
 all_goals rfl
theorem QjI {R1 c} [H1 : EncR QM R1 c] : CA T (n + 13) 102 [some (Ent.box R1)] [.ptr 0 0 0] = (Qa8 c).map fun r => (.agg [.i .i64 r.2.No, .sl 1, .sl 2, .sl 3, .sl 4, .sl 5, .sl 6, .sl 7, .i .i64 r.2.Now], [some (Ent.box (QM r.1)), some (Ent.lst 8 (r.2.Finds.map QE)), some (Ent.lst 3 (r.2.Secrets.map VF)), some (Ent.lst 3 (r.2.Slots.map Vi)), some (Ent.lst 5 (r.2.Claims.map Qw)), some (Ent.lst 4 (r.2.Trials.map Xk)), some (Ent.lst 5 (r.2.Chain.map VT)), some (Ent.lst 4 (r.2.Book.map VO))]) := by
 obtain ⟨rfl⟩ := H1
 rw [QbA]
 simp -dsimp +contextual (maxSteps := 100000000) only [↓evA, eZ, Nat.reduceAdd, Nat.reduceMul, Nat.reduceBEq, Nat.reduceLeDiff, Nat.reduceLT, Tryz.func102, Tryz.f102, QJc, Qr0, srt, QS, QjQ, QjP]
 try simp only [Qa8, eY]
 all_goals rfl
theorem QfC (i) {R1 c} [H1 : EncR QM R1 c] : CA T (n + 5) 171 [some (Ent.box R1)] [.ptr 0 0 0, .i .i64 i] = (ZW c i).map fun r => (.agg [.i .i64 r.2.Kind, .i .i64 r.2.Find.Thing.Id, .i .i64 r.2.Find.Thing.Kind, .i .i64 r.2.Find.Thing.Colour, .i .i64 r.2.Find.Thing.Size, .i .i64 r.2.Find.Thing.Worth, .i .i64 r.2.Find.Place, .i .i64 r.2.Find.At, .i .i64 r.2.Find.Finder, .sl 1, .i .i64 r.2.Id, .i .i64 r.2.Who, .i .i64 r.2.N, .sl 2], [some (Ent.box (QM r.1)), some (Ent.lst 2 (r.2.Marks.map Xt)), some (Ent.lst 3 (r.2.Bids.map Qa5))]) := by
 obtain ⟨rfl⟩ := H1
 rw [QbA]
 simp -dsimp +contextual (maxSteps := 100000000) only [↓evA, eZ, Nat.reduceAdd, Nat.reduceMul, Nat.reduceBEq, Nat.reduceLeDiff, Nat.reduceLT, Tryz.func171, Tryz.f171, QGl, QsD, srt, Qgu, QS, Jk]
 try simp only [ZW, eY]
 all_goals rfl
theorem Qk6 (s w c) : CP T (n + 5) 301 [.i .i64 s, .i .i64 w, .i .i64 c] = (QbW s w c).map fun r => .i .i64 r := by
 rw [Qi]
 simp -dsimp +contextual only [↓evA, eZ, Nat.reduceAdd, Nat.reduceMul, Nat.reduceBEq, Nat.reduceLeDiff, Nat.reduceLT, Tryz.func301, Tryz.f301, QJA, QsU, QfK]
 try simp only [QbW, eY]
 all_goals rfl
theorem QiJ (i) {R1 c R2 l} [H1 : EncR QM R1 c] [H2 : EncL Qa5 R2 l] : LP T (n + 6) 249 3 (frm [(0, .ptr 0 0 0), (3, .sl 1), (4, .i .i64 i)]) [some (Ent.box R1), some (Ent.lst 3 R2)] =
  (run ZN (c, l, i)).map (fun (zr : l1Cur × (List Bid)) => (XE.exit 0, frm [(0, .ptr 0 0 0), (3, .sl 1)], [some (Ent.box (QM zr.1)), some (Ent.lst 3 (zr.2.map Qa5))])) := by
 rcases H1, H2 with ⟨⟨rfl⟩, ⟨rfl⟩⟩
 rw [QA]
 simp -dsimp only [↓evA, evB, Qm, Tryz.func249, Tryz.f249, QzT, Qpe, TP, TZ, Nat.reduceAdd, Nat.reduceMul, Nat.reduceBEq, Nat.reduceLeDiff, Nat.reduceLT]
 apply Qcr c l i
 intro c l i
 simp -dsimp +contextual only [↓evA, eZ, Nat.reduceAdd, Nat.reduceMul, Nat.reduceBEq, Nat.reduceLeDiff, Nat.reduceLT, srt, QS, Qk6]
 try simp only [ZN, eY]
 all_goals rfl
theorem QlW {R1 c} [H1 : EncR QM R1 c] : CA T (n + 7) 249 [some (Ent.box R1)] [.ptr 0 0 0] = (Qcm c).map fun r => (.sl 1, [some (Ent.box (QM r.1)), some (Ent.lst 3 (r.2.map Qa5))]) := by
 obtain ⟨rfl⟩ := H1
 rw [QbA]
 simp -dsimp +contextual (maxSteps := 100000000) only [↓evA, eZ, Nat.reduceAdd, Nat.reduceMul, Nat.reduceBEq, Nat.reduceLeDiff, Nat.reduceLT, Tryz.func249, Tryz.f249, QzT, Qpe, srt, QS, Jk, QiJ]
 try simp only [Qcm, eY]
 all_goals rfl
theorem QlY {R1 c} [H1 : EncR QM R1 c] : CA T (n + 8) 172 [some (Ent.box R1)] [.ptr 0 0 0] = (Qcn c).map fun r => (.agg [.i .i64 r.2.Kind, .i .i64 r.2.Find.Thing.Id, .i .i64 r.2.Find.Thing.Kind, .i .i64 r.2.Find.Thing.Colour, .i .i64 r.2.Find.Thing.Size, .i .i64 r.2.Find.Thing.Worth, .i .i64 r.2.Find.Place, .i .i64 r.2.Find.At, .i .i64 r.2.Find.Finder, .sl 1, .i .i64 r.2.Id, .i .i64 r.2.Who, .i .i64 r.2.N, .sl 2], [some (Ent.box (QM r.1)), some (Ent.lst 2 (r.2.Marks.map Xt)), some (Ent.lst 3 (r.2.Bids.map Qa5))]) := by
 obtain ⟨rfl⟩ := H1
 rw [QbA]
 simp -dsimp +contextual (maxSteps := 100000000) only [↓evA, eZ, Nat.reduceAdd, Nat.reduceMul, Nat.reduceBEq, Nat.reduceLeDiff, Nat.reduceLT, Tryz.func172, Tryz.f172, QJn, Qrb, srt, Jk, QS, QfC, QlW]
 try simp only [Qcn, eY]
 all_goals rfl
theorem QhY (i) {R1 c R2 l} [H1 : EncR QM R1 c] [H2 : EncL Qek R2 l] : LP T (n + 9) 103 3 (frm [(0, .ptr 0 0 0), (5, .sl 1), (6, .i .i64 i)]) [some (Ent.box R1), some (Ent.lst 14 R2)] =
  (run Zb (c, l, i)).map (fun (zr : l1Cur × (List Event)) => (XE.exit 0, frm [(0, .ptr 0 0 0), (5, .sl 1)], [some (Ent.box (QM zr.1)), some (Ent.lst 14 (zr.2.map Qek))])) := by
 rcases H1, H2 with ⟨⟨rfl⟩, ⟨rfl⟩⟩
 rw [QA]
 simp -dsimp only [↓evA, evB, Qm, Tryz.func103, Tryz.f103, QzH, Qok, TP, TZ, Nat.reduceAdd, Nat.reduceMul, Nat.reduceBEq, Nat.reduceLeDiff, Nat.reduceLT]
 apply Qcr c l i
 intro c l i
 simp -dsimp +contextual only [↓evA, eZ, Nat.reduceAdd, Nat.reduceMul, Nat.reduceBEq, Nat.reduceLeDiff, Nat.reduceLT, srt, QlY]
 try simp only [Zb, eY]
 all_goals rfl
theorem QkG (m) {R1 c} [H1 : EncR QM R1 c] : CA T (n + 10) 103 [some (Ent.box R1)] [.ptr 0 0 0, .i .i64 m] = (QbE c m).map fun r => (.sl 1, [some (Ent.box (QM r.1)), some (Ent.lst 14 (r.2.map Qek))]) := by
 obtain ⟨rfl⟩ := H1
 rw [QbA]
 simp -dsimp +contextual (maxSteps := 100000000) only [↓evA, eZ, Nat.reduceAdd, Nat.reduceMul, Nat.reduceBEq, Nat.reduceLeDiff, Nat.reduceLT, Tryz.func103, Tryz.f103, QzH, Qok, srt, QfC, QS, QhY]
 try simp only [QbE, eY]
 all_goals rfl
theorem QhX (k) {R1 l R2 f} [H1 : EncL QE R1 l] [H2 : EncR QE R2 f] : LP T (n + 1) 289 2 (frm [(0, .imm 8 R1), (3, .ptr 0 0 0), (6, .i .i64 k)]) [some (Ent.box R2)] =
  (run (J3 l f) k).map (fun (zr : Int) => (XE.exit 0, frm [(0, .imm 8 (l.map QE)), (3, .ptr 0 0 0), (6, .i .i64 zr)], [some (Ent.box (QE f))])) := by
 rcases H1, H2 with ⟨⟨rfl⟩, ⟨rfl⟩⟩
 rw [QA]
 simp -dsimp only [↓evA, evB, Qm, Tryz.func289, Tryz.f289, QzK, Qpv, TP, TZ, Nat.reduceAdd, Nat.reduceMul, Nat.reduceBEq, Nat.reduceLeDiff, Nat.reduceLT]
 apply Qu k
 intro k
 simp -dsimp +contextual only [↓evA, eZ, Nat.reduceAdd, Nat.reduceMul, Nat.reduceBEq, Nat.reduceLeDiff, Nat.reduceLT]
 try simp only [J3, eY]
 try simp only [List.contains_nil, Bool.not_false, Bool.and_true, VB, List.length_append, List.length_cons, List.length_nil, Nat.zero_add, VN, Xc]
 all_goals rfl
theorem QkD {R1 l R2 f} [H1 : EncL QE R1 l] [H2 : EncR QE R2 f] : CP T (n + 6) 289 [.imm 8 R1, .agg R2] = (QaH l f).map fun r => .tup [.own 8 (r.1.map QE), .b r.2] := by
 rcases H1, H2 with ⟨⟨rfl⟩, ⟨rfl⟩⟩
 rw [Qi]
 simp -dsimp +contextual only [↓evA, eZ, Nat.reduceAdd, Nat.reduceMul, Nat.reduceBEq, Nat.reduceLeDiff, Nat.reduceLT, Tryz.func289, Tryz.f289, QzK, Qpv, Qcz, QhX]
 try simp only [QaH, eY]
 try simp only [List.contains_nil, Bool.not_false, Bool.and_true, VB, List.length_append, List.length_cons, List.length_nil, Nat.zero_add, VN, Xc]
 all_goals first | rfl | (simp +contextual only [evN] <;> rfl)
theorem Qgq (k) {R1 l R2 a} [H1 : EncL VA R1 l] [H2 : EncR VA R2 a] : LP T (n + 1) 290 2 (frm [(0, .imm 3 R1), (3, .ptr 0 0 0), (6, .i .i64 k)]) [some (Ent.box R2)] =
  (run (Jb l a) k).map (fun (zr : Int) => (XE.exit 0, frm [(0, .imm 3 (l.map VA)), (3, .ptr 0 0 0), (6, .i .i64 zr)], [some (Ent.box (VA a))])) := by
 rcases H1, H2 with ⟨⟨rfl⟩, ⟨rfl⟩⟩
 rw [QA]
 simp -dsimp only [↓evA, evB, Qm, Tryz.func290, Tryz.f290, QAc, Qpy, TP, TZ, Nat.reduceAdd, Nat.reduceMul, Nat.reduceBEq, Nat.reduceLeDiff, Nat.reduceLT]
 apply Qu k
 intro k
 simp -dsimp +contextual only [↓evA, eZ, Nat.reduceAdd, Nat.reduceMul, Nat.reduceBEq, Nat.reduceLeDiff, Nat.reduceLT]
 try simp only [Jb, eY]
 try simp only [List.contains_nil, Bool.not_false, Bool.and_true, VB, List.length_append, List.length_cons, List.length_nil, Nat.zero_add, VN, Xc]
 all_goals rfl
theorem Qi4 {R1 l R2 a} [H1 : EncL VA R1 l] [H2 : EncR VA R2 a] : CP T (n + 6) 290 [.imm 3 R1, .agg R2] = (ZF l a).map fun r => .tup [.own 3 (r.1.map VF), .b r.2] := by
 rcases H1, H2 with ⟨⟨rfl⟩, ⟨rfl⟩⟩
 rw [Qi]
 simp -dsimp +contextual only [↓evA, eZ, Nat.reduceAdd, Nat.reduceMul, Nat.reduceBEq, Nat.reduceLeDiff, Nat.reduceLT, Tryz.func290, Tryz.f290, QAc, Qpy, Qfg, Qdj, Qgq]
 try simp only [ZF, eY]
 try simp only [List.contains_nil, Bool.not_false, Bool.and_true, VB, List.length_append, List.length_cons, List.length_nil, Nat.zero_add, VN, Xc]
 all_goals first | rfl | (simp +contextual only [evN] <;> rfl)
theorem QeB (s k i) {R1 l} [H1 : EncL Vi R1 l] : LP T (n + 1) 278 3 (frm [(0, .imm 3 R1), (1, .i .i64 s), (5, .i .i64 k), (6, .i .i64 i)]) [] =
  (run (QR l s) (k, i)).map (fun (zr : Int) => (XE.exit 0, frm [(0, .imm 3 (l.map Vi)), (5, .i .i64 zr)], [])) := by
 obtain ⟨rfl⟩ := H1
 rw [QA]
 simp -dsimp only [↓evA, evB, Qm, Tryz.func278, Tryz.f278, QAL, QoL, TP, TZ, Nat.reduceAdd, Nat.reduceMul, Nat.reduceBEq, Nat.reduceLeDiff, Nat.reduceLT]
 apply Vg k i
 intro k i
 simp -dsimp +contextual only [↓evA, eZ, Nat.reduceAdd, Nat.reduceMul, Nat.reduceBEq, Nat.reduceLeDiff, Nat.reduceLT]
 try simp only [QR, eY]
 all_goals rfl
theorem Qf3 (s) {R1 l} [H1 : EncL Vi R1 l] : CP T (n + 2) 278 [.imm 3 R1, .i .i64 s] = (Zj l s).map fun r => .i .i64 r := by
 obtain ⟨rfl⟩ := H1
 rw [Qi]
 simp -dsimp +contextual only [↓evA, eZ, Nat.reduceAdd, Nat.reduceMul, Nat.reduceBEq, Nat.reduceLeDiff, Nat.reduceLT, Tryz.func278, Tryz.f278, QAL, QoL, QeB]
 try simp only [Zj, eY]
 all_goals rfl
theorem Qho (s i) {R1 a R2 o} [H1 : EncR QcC R1 a] [H2 : EncL Vi R2 o] : LP T (n + 1) 221 6 (frm [(3, .ptr 0 0 0), (6, .sl 1), (7, .i .i64 s), (8, .i .i64 i)]) [some (Ent.box R1), some (Ent.lst 3 R2)] =
  (run (V5 a s) (o, i)).map (fun (zr : (List Slot)) => (XE.exit 0, frm [(6, .sl 0)], [some (Ent.lst 3 (zr.map Vi))])) := by
 rcases H1, H2 with ⟨⟨rfl⟩, ⟨rfl⟩⟩
 rw [QA]
 simp -dsimp only [↓evA, evB, Qm, Tryz.func221, Tryz.f221, QAj, QoD, TP, TZ, Nat.reduceAdd, Nat.reduceMul, Nat.reduceBEq, Nat.reduceLeDiff, Nat.reduceLT]
 apply Vg o i
 intro o i
 simp -dsimp +contextual only [↓evA, eZ, Nat.reduceAdd, Nat.reduceMul, Nat.reduceBEq, Nat.reduceLeDiff, Nat.reduceLT]
 try simp only [V5, eY]
 all_goals rfl
theorem Qls {R1 l R2 a} [H1 : EncL Vi R1 l] [H2 : EncR QcC R2 a] : CP T (n + 4) 221 [.imm 3 R1, .agg R2] = (QbR l a).map fun r => .tup [.own 3 (r.1.map Vi), .b r.2] := by
 rcases H1, H2 with ⟨⟨rfl⟩, ⟨rfl⟩⟩
 rw [Qi]
 simp -dsimp +contextual only [↓evA, eZ, Nat.reduceAdd, Nat.reduceMul, Nat.reduceBEq, Nat.reduceLeDiff, Nat.reduceLT, Tryz.func221, Tryz.f221, QAj, QoD, Qf3, QcH, Qc3, Qch, Qho]
 try simp only [QbR, eY]
 all_goals first | rfl | (simp +contextual only [evN] <;> rfl)
theorem QcZ {R1 l R2 a} [H1 : EncL VT R1 l] [H2 : EncR VT R2 a] : CP T (n + 8) 167 [.imm 5 R1, .agg R2] = (Z4 l a).map fun r => .tup [.own 5 (r.1.map VT), .b r.2] := by
 rcases H1, H2 with ⟨⟨rfl⟩, ⟨rfl⟩⟩
 rw [Qi]
 simp -dsimp +contextual only [↓evA, eZ, Nat.reduceAdd, Nat.reduceMul, Nat.reduceBEq, Nat.reduceLeDiff, Nat.reduceLT, Tryz.func167, Tryz.f167, QGg, QsI, QeP, Qc2]
 try simp only [Z4, eY]
 try simp only [List.contains_nil, Bool.not_false, Bool.and_true, VB, List.length_append, List.length_cons, List.length_nil, Nat.zero_add, VN, Xc]
 all_goals first | rfl | (simp +contextual only [evN] <;> rfl)
theorem JY (oxNo oxNow o2) {R1 a R2 oxFinds R3 oxSecrets R4 oxSlots R5 oxClaims R6 oxTrials R7 oxChain R8 oxBook} [H1 : EncR Va R1 a] [H2 : EncL QE R2 oxFinds] [H3 : EncL VF R3 oxSecrets] [H4 : EncL Vi R4 oxSlots] [H5 : EncL Qw R5 oxClaims] [H6 : EncL Xk R6 oxTrials] [H7 : EncL VT R7 oxChain] [H8 : EncL VO R8 oxBook] : CM T (n + 12) 291 [some (Ent.lst 8 R2), some (Ent.lst 3 R3), some (Ent.lst 3 R4), some (Ent.lst 5 R5), some (Ent.lst 4 R6), some (Ent.lst 5 R7), some (Ent.lst 4 R8)] [.agg R1, .agg [.i .i64 oxNo, .sl 0, .sl 1, .sl 2, .sl 3, .sl 4, .sl 5, .sl 6, .i .i64 oxNow], .b o2] = (Qj a (⟨oxNo, oxFinds, oxSecrets, oxSlots, oxClaims, oxTrials, oxChain, oxBook, oxNow⟩ : House) o2).map fun r => .tup [.agg (JC r.1), .b r.2] := by
 rcases H1, H2, H3, H4, H5, H6, H7, H8 with ⟨⟨rfl⟩, ⟨rfl⟩, ⟨rfl⟩, ⟨rfl⟩, ⟨rfl⟩, ⟨rfl⟩, ⟨rfl⟩, ⟨rfl⟩⟩
 rw [QzN]
 simp -dsimp +contextual (maxSteps := 100000000) only [↓evA, eZ, Nat.reduceAdd, Nat.reduceMul, Nat.reduceBEq, Nat.reduceLeDiff, Nat.reduceLT, Tryz.func291, Tryz.f291, QG6, QsG, ZA, Vu]
 try simp only [Qj, eY]
 all_goals rfl
theorem QjM (a4) {R1 a R2 a2 R3 a3} [H1 : EncR Va R1 a] [H2 : EncR QE R2 a2] [H3 : EncL Xt R3 a3] : CP T (n + 13) 241 [.agg R1, .agg R2, .imm 2 R3, .i .i64 a4] = (Qbb a a2 a3 a4).map fun r => .tup [.agg (JC r.1), .b r.2] := by
 rcases H1, H2, H3 with ⟨⟨rfl⟩, ⟨rfl⟩, ⟨rfl⟩⟩
 rw [Qi]
 simp -dsimp +contextual (maxSteps := 100000000) only [↓evA, eZ, Nat.reduceAdd, Nat.reduceMul, Nat.reduceBEq, Nat.reduceLeDiff, Nat.reduceLT, Tryz.func241, Tryz.f241, QGN, Qrq, srt, Vu, QkD, Qi4, Qls, QcZ, JY]
 try simp only [Qbb, eY]
 all_goals rfl
theorem Qg8 (a2 a3 a4) {R1 l R2 a} [H1 : EncL Qw R1 l] [H2 : EncR Qw R2 a] : LP T (n + 1) 285 4 (frm [(0, .imm 5 R1), (3, .ptr 0 0 0), (6, .i .i64 a2), (7, .b a3), (8, .i .i64 a4)]) [some (Ent.box R2)] =
  (run (XS l a) (a2, a3, a4)).map (fun (zr : Int × Bool) => (XE.exit 0, frm [(0, .imm 5 (l.map Qw)), (3, .ptr 0 0 0), (6, .i .i64 zr.1), (7, .b zr.2)], [some (Ent.box (Qw a))])) := by
 rcases H1, H2 with ⟨⟨rfl⟩, ⟨rfl⟩⟩
 rw [QA]
 simp -dsimp only [↓evA, evB, Qm, Tryz.func285, Tryz.f285, QzY, QoZ, TP, TZ, Nat.reduceAdd, Nat.reduceMul, Nat.reduceBEq, Nat.reduceLeDiff, Nat.reduceLT]
 apply Qcr a2 a3 a4
 intro a2 a3 a4
 simp -dsimp +contextual only [↓evA, eZ, Nat.reduceAdd, Nat.reduceMul, Nat.reduceBEq, Nat.reduceLeDiff, Nat.reduceLT]
 try simp only [XS, eY]
 try simp only [List.contains_nil, Bool.not_false, Bool.and_true, VB, List.length_append, List.length_cons, List.length_nil, Nat.zero_add, VN, Xc]
 all_goals rfl
theorem QeQ {R1 l R2 a} [H1 : EncL Qw R1 l] [H2 : EncR Qw R2 a] : CP T (n + 4) 285 [.imm 5 R1, .agg R2] = (XY l a).map fun r => .tup [.own 5 (r.1.map Qw), .b r.2] := by
 rcases H1, H2 with ⟨⟨rfl⟩, ⟨rfl⟩⟩
 rw [Qi]
 simp -dsimp +contextual only [↓evA, eZ, Nat.reduceAdd, Nat.reduceMul, Nat.reduceBEq, Nat.reduceLeDiff, Nat.reduceLT, Tryz.func285, Tryz.f285, QzY, QoZ, Qb9, Qg8]
 try simp only [XY, eY]
 try simp only [List.contains_nil, Bool.not_false, Bool.and_true, VB, List.length_append, List.length_cons, List.length_nil, Nat.zero_add, VN, Xc]
 all_goals first | rfl | (simp +contextual only [evN] <;> rfl)
theorem Qf8 (a a2 a4xNo a4xNow a5 a6) {R1 a3 R2 a4xFinds R3 a4xSecrets R4 a4xSlots R5 a4xClaims R6 a4xTrials R7 a4xChain R8 a4xBook} [H1 : EncR Va R1 a3] [H2 : EncL QE R2 a4xFinds] [H3 : EncL VF R3 a4xSecrets] [H4 : EncL Vi R4 a4xSlots] [H5 : EncL Qw R5 a4xClaims] [H6 : EncL Xk R6 a4xTrials] [H7 : EncL VT R7 a4xChain] [H8 : EncL VO R8 a4xBook] : LP T (n + 1) 242 5 (frm [(1, .i .i64 a), (3, .i .i64 a2), (4, .ptr 0 0 0), (8, .ptr 1 0 0), (10, .ptr 2 0 0), (12, .b a5), (13, .i .i64 a6)]) [some (Ent.box R1), some (Ent.box [.i .i64 0, .nil, .nil, .nil, .nil, .nil, .nil, .nil, .i .i64 0]), some (Ent.box [.i .i64 a4xNo, .sl 3, .sl 4, .sl 5, .sl 6, .sl 7, .sl 8, .sl 9, .i .i64 a4xNow]), some (Ent.lst 8 R2), some (Ent.lst 3 R3), some (Ent.lst 3 R4), some (Ent.lst 5 R5), some (Ent.lst 4 R6), some (Ent.lst 5 R7), some (Ent.lst 4 R8)] =
  (run (Jg a a2 a3 (⟨a4xNo, a4xFinds, a4xSecrets, a4xSlots, a4xClaims, a4xTrials, a4xChain, a4xBook, a4xNow⟩ : House) a5) a6).map (fun (zr : Int) => (XE.exit 0, frm [(1, .i .i64 a), (3, .i .i64 a2), (4, .ptr 0 0 0), (8, .ptr 1 0 0), (10, .ptr 2 0 0), (12, .b a5), (13, .i .i64 zr)], [some (Ent.box (Va a3)), some (Ent.box [.i .i64 0, .nil, .nil, .nil, .nil, .nil, .nil, .nil, .i .i64 0]), some (Ent.box [.i .i64 a4xNo, .sl 3, .sl 4, .sl 5, .sl 6, .sl 7, .sl 8, .sl 9, .i .i64 a4xNow]), some (Ent.lst 8 (a4xFinds.map QE)), some (Ent.lst 3 (a4xSecrets.map VF)), some (Ent.lst 3 (a4xSlots.map Vi)), some (Ent.lst 5 (a4xClaims.map Qw)), some (Ent.lst 4 (a4xTrials.map Xk)), some (Ent.lst 5 (a4xChain.map VT)), some (Ent.lst 4 (a4xBook.map VO))])) := by
 rcases H1, H2, H3, H4, H5, H6, H7, H8 with ⟨⟨rfl⟩, ⟨rfl⟩, ⟨rfl⟩, ⟨rfl⟩, ⟨rfl⟩, ⟨rfl⟩, ⟨rfl⟩, ⟨rfl⟩⟩
 rw [QA]
 simp -dsimp only [↓evA, evB, Qm, Tryz.func242, Tryz.f242, QAi, Qpx, TP, TZ, Nat.reduceAdd, Nat.reduceMul, Nat.reduceBEq, Nat.reduceLeDiff, Nat.reduceLT]
 apply Qu a6
 intro a6
 simp -dsimp +contextual (maxSteps := 100000000) only [↓evA, eZ, Nat.reduceAdd, Nat.reduceMul, Nat.reduceBEq, Nat.reduceLeDiff, Nat.reduceLT, srt]
 try simp only [Jg, eY]
 try simp only [List.contains_nil, Bool.not_false, Bool.and_true, VB, List.length_append, List.length_cons, List.length_nil, Nat.zero_add, VN, Xc]
 all_goals rfl
theorem Qi1 (a2 a3 a4) {R1 a} [H1 : EncR Va R1 a] : CP T (n + 13) 242 [.agg R1, .i .i64 a2, .i .i64 a3, .i .i64 a4] = (ZH a a2 a3 a4).map fun r => .tup [.agg (JC r.1), .b r.2] := by
 obtain ⟨rfl⟩ := H1
 rw [Qi]
 simp -dsimp +contextual (maxSteps := 100000000) only [↓evA, eZ, Nat.reduceAdd, Nat.reduceMul, Nat.reduceBEq, Nat.reduceLeDiff, Nat.reduceLT, Tryz.func242, Tryz.f242, QAi, Qpx, srt, Vu, QeQ, Qch, JY, Qf8]
 try simp only [ZH, eY]
 try simp only [List.contains_nil, Bool.not_false, Bool.and_true, VB, List.length_append, List.length_cons, List.length_nil, Nat.zero_add, VN, Xc]
 all_goals rfl
theorem Qgi (i i2) {R1 l} [H1 : EncL Qw R1 l] : LP T (n + 1) 292 2 (frm [(0, .imm 5 R1), (1, .i .i64 i), (5, .i .i64 i2)]) [] =
  Zs (run (Jd l i) i2) (fun (zr : Int) => (XE.ret, frm [(4, .i .i64 zr)], [])) (fun (zr : Unit) => (XE.exit 0, frm [], [])) := by
 obtain ⟨rfl⟩ := H1
 rw [QA]
 simp -dsimp only [↓evA, evB, Qm, Tryz.func292, Tryz.f292, QAG, QnX, TP, TZ, Nat.reduceAdd, Nat.reduceMul, Nat.reduceBEq, Nat.reduceLeDiff, Nat.reduceLT]
 apply Qu i2
 intro i2
 simp -dsimp +contextual only [↓evA, eZ, Nat.reduceAdd, Nat.reduceMul, Nat.reduceBEq, Nat.reduceLeDiff, Nat.reduceLT]
 try simp only [Jd, eY]
 all_goals rfl
theorem Qcb (i) {R1 l} [H1 : EncL Qw R1 l] : CP T (n + 2) 292 [.imm 5 R1, .i .i64 i] = (J0 l i).map fun r => .i .i64 r := by
 obtain ⟨rfl⟩ := H1
 rw [Qi]
 simp -dsimp +contextual only [↓evA, eZ, Nat.reduceAdd, Nat.reduceMul, Nat.reduceBEq, Nat.reduceLeDiff, Nat.reduceLT, Tryz.func292, Tryz.f292, QAG, QnX, Qgi]
 try simp only [J0, eY]
 all_goals rfl
theorem QgI (c a) {R1 l} [H1 : EncL Xt R1 l] : CP T (n + 5) 338 [.imm 2 R1, .i .i64 c, .i .i64 a] = (ZL l c a).map fun r => .i .i64 r := by
 obtain ⟨rfl⟩ := H1
 rw [Qi]
 simp -dsimp +contextual only [↓evA, eZ, Nat.reduceAdd, Nat.reduceMul, Nat.reduceBEq, Nat.reduceLeDiff, Nat.reduceLT, Tryz.func338, Tryz.f338, QK5, Qrs, QcF, Ve, QfK, Qlt]
 try simp only [ZL, eY]
 all_goals rfl
theorem Qgh {R1 l R2 a} [H1 : EncL Xt R1 l] [H2 : EncR Xk R2 a] : CP T (n + 6) 325 [.imm 2 R1, .agg R2] = (Zf l a).map fun r => .i .i64 r := by
 rcases H1, H2 with ⟨⟨rfl⟩, ⟨rfl⟩⟩
 rw [Qi]
 simp -dsimp +contextual only [↓evA, eZ, Nat.reduceAdd, Nat.reduceMul, Nat.reduceBEq, Nat.reduceLeDiff, Nat.reduceLT, Tryz.func325, Tryz.f325, QJY, QrB, Qb2, QgI]
 try simp only [Zf, eY]
 all_goals rfl
theorem QgM (q i) {R1 l} [H1 : EncL Xt R1 l] : LP T (n + 1) 326 2 (frm [(0, .imm 2 R1), (1, .i .i64 q), (5, .i .i64 i)]) [] =
  Zs (run (JS l q) i) (fun (zr : Int) => (XE.ret, frm [(4, .i .i64 zr)], [])) (fun (zr : Unit) => (XE.exit 0, frm [], [])) := by
 obtain ⟨rfl⟩ := H1
 rw [QA]
 simp -dsimp only [↓evA, evB, Qm, Tryz.func326, Tryz.f326, QzG, Qoc, TP, TZ, Nat.reduceAdd, Nat.reduceMul, Nat.reduceBEq, Nat.reduceLeDiff, Nat.reduceLT]
 apply Qu i
 intro i
 simp -dsimp +contextual only [↓evA, eZ, Nat.reduceAdd, Nat.reduceMul, Nat.reduceBEq, Nat.reduceLeDiff, Nat.reduceLT]
 try simp only [JS, eY]
 all_goals rfl
theorem Qjx (q) {R1 l} [H1 : EncL Xt R1 l] : CP T (n + 2) 326 [.imm 2 R1, .i .i64 q] = (Qa6 l q).map fun r => .i .i64 r := by
 obtain ⟨rfl⟩ := H1
 rw [Qi]
 simp -dsimp +contextual only [↓evA, eZ, Nat.reduceAdd, Nat.reduceMul, Nat.reduceBEq, Nat.reduceLeDiff, Nat.reduceLT, Tryz.func326, Tryz.f326, QzG, Qoc, QgM]
 try simp only [Qa6, eY]
 all_goals rfl
theorem Qh2 (a2) {R1 l R2 a} [H1 : EncL Xt R1 l] [H2 : EncR Xk R2 a] : CP T (n + 7) 293 [.imm 2 R1, .agg R2, .i .i64 a2] = (Z8 l a a2).map fun r => .tup [.agg (Xk r.1), .b r.2] := by
 rcases H1, H2 with ⟨⟨rfl⟩, ⟨rfl⟩⟩
 rw [Qi]
 simp -dsimp +contextual only [↓evA, eZ, Nat.reduceAdd, Nat.reduceMul, Nat.reduceBEq, Nat.reduceLeDiff, Nat.reduceLT, Tryz.func293, Tryz.f293, QK1, Qsa, Qgh, Qjx]
 try simp only [Z8, eY]
 all_goals rfl
theorem Qii (a2 a3) {R1 a} [H1 : EncR Va R1 a] : CP T (n + 13) 243 [.agg R1, .i .i64 a2, .i .i64 a3] = (Qad a a2 a3).map fun r => .tup [.agg (JC r.1), .b r.2] := by
 obtain ⟨rfl⟩ := H1
 rw [Qi]
 simp -dsimp +contextual (maxSteps := 100000000) only [↓evA, eZ, Nat.reduceAdd, Nat.reduceMul, Nat.reduceBEq, Nat.reduceLeDiff, Nat.reduceLT, Tryz.func243, Tryz.f243, QJo, QrR, srt, Vu, Qcb, ZA, Qe5, Qh2, Qb2, JY]
 try simp only [Qad, eY]
 all_goals rfl
theorem QeX (a k i) {R1 l} [H1 : EncL Qw R1 l] : LP T (n + 1) 294 3 (frm [(0, .imm 5 R1), (1, .i .i64 a), (5, .i .i64 k), (6, .i .i64 i)]) [] =
  (run (QZ l a) (k, i)).map (fun (zr : Int) => (XE.exit 0, frm [(0, .imm 5 (l.map Qw)), (5, .i .i64 zr)], [])) := by
 obtain ⟨rfl⟩ := H1
 rw [QA]
 simp -dsimp only [↓evA, evB, Qm, Tryz.func294, Tryz.f294, QAy, QoX, TP, TZ, Nat.reduceAdd, Nat.reduceMul, Nat.reduceBEq, Nat.reduceLeDiff, Nat.reduceLT]
 apply Vg k i
 intro k i
 simp -dsimp +contextual only [↓evA, eZ, Nat.reduceAdd, Nat.reduceMul, Nat.reduceBEq, Nat.reduceLeDiff, Nat.reduceLT]
 try simp only [QZ, eY]
 all_goals rfl
theorem Qc0 (a) {R1 l} [H1 : EncL Qw R1 l] : CP T (n + 2) 294 [.imm 5 R1, .i .i64 a] = (JX l a).map fun r => .i .i64 r := by
 obtain ⟨rfl⟩ := H1
 rw [Qi]
 simp -dsimp +contextual only [↓evA, eZ, Nat.reduceAdd, Nat.reduceMul, Nat.reduceBEq, Nat.reduceLeDiff, Nat.reduceLT, Tryz.func294, Tryz.f294, QAy, QoX, QeX]
 try simp only [JX, eY]
 all_goals rfl
theorem Qhf (s i) {R1 o} [H1 : EncL Vi R1 o] : LP T (n + 1) 168 6 (frm [(6, .sl 0), (7, .i .i64 s), (8, .i .i64 i)]) [some (Ent.lst 3 R1)] =
  (run (V0 s) (o, i)).map (fun (zr : (List Slot)) => (XE.exit 0, frm [(6, .sl 0)], [some (Ent.lst 3 (zr.map Vi))])) := by
 obtain ⟨rfl⟩ := H1
 rw [QA]
 simp -dsimp only [↓evA, evB, Qm, Tryz.func168, Tryz.f168, QAm, Qoe, TP, TZ, Nat.reduceAdd, Nat.reduceMul, Nat.reduceBEq, Nat.reduceLeDiff, Nat.reduceLT]
 apply Vg o i
 intro o i
 simp -dsimp +contextual only [↓evA, eZ, Nat.reduceAdd, Nat.reduceMul, Nat.reduceBEq, Nat.reduceLeDiff, Nat.reduceLT]
 try simp only [V0, eY]
 all_goals rfl
theorem QfF (a) {R1 l} [H1 : EncL Vi R1 l] : CP T (n + 4) 168 [.imm 3 R1, .i .i64 a] = (QaT l a).map fun r => .tup [.own 3 (r.1.map Vi), .b r.2] := by
 obtain ⟨rfl⟩ := H1
 rw [Qi]
 simp -dsimp +contextual only [↓evA, eZ, Nat.reduceAdd, Nat.reduceMul, Nat.reduceBEq, Nat.reduceLeDiff, Nat.reduceLT, Tryz.func168, Tryz.f168, QAm, Qoe, Qch, QcH, Qhf]
 try simp only [QaT, eY]
 all_goals first | rfl | (simp +contextual only [evN] <;> rfl)
theorem QdD (a2 a3 w) {R1 a} [H1 : EncR Va R1 a] : CP T (n + 9) 295 [.agg R1, .i .i64 a2, .i .i64 a3, .i .i64 w] = (Zl a a2 a3 w).map fun r => .tup [.agg (JC r.1), .b r.2] := by
 obtain ⟨rfl⟩ := H1
 rw [Qi]
 simp -dsimp +contextual (maxSteps := 100000000) only [↓evA, eZ, Nat.reduceAdd, Nat.reduceMul, Nat.reduceBEq, Nat.reduceLeDiff, Nat.reduceLT, Tryz.func295, Tryz.f295, QJf, Qsi, Vu, QfF, QcZ]
 try simp only [Zl, eY]
 all_goals rfl
theorem QeK (a a2) {R1 l} [H1 : EncL Qw R1 l] : CP T (n + 4) 286 [.imm 5 R1, .i .i64 a, .i .i64 a2] = (JL l a a2).map fun r => .tup [.own 5 (r.1.map Qw), .b r.2] := by
 obtain ⟨rfl⟩ := H1
 rw [Qi]
 simp -dsimp +contextual only [↓evA, eZ, Nat.reduceAdd, Nat.reduceMul, Nat.reduceBEq, Nat.reduceLeDiff, Nat.reduceLT, Tryz.func286, Tryz.f286, QFD, Qrg, Qcb, Qb9]
 try simp only [JL, eY]
 all_goals first | rfl | (simp +contextual only [evN] <;> rfl)
theorem QlV (d) {R1 a} [H1 : EncR QcC R1 a] : CP T (n + 3) 297 [.agg R1, .i .i64 d] = (Qcw a d).map fun r => .i .i64 r := by
 obtain ⟨rfl⟩ := H1
 rw [Qi]
 simp -dsimp +contextual only [↓evA, eZ, Nat.reduceAdd, Nat.reduceMul, Nat.reduceBEq, Nat.reduceLeDiff, Nat.reduceLT, Tryz.func297, Tryz.f297, QGe, QsF, Qc3, Ve, QkR]
 try simp only [Qcw, eY]
 all_goals rfl
theorem QeE {R1 l R2 a} [H1 : EncL VO R1 l] [H2 : EncR VO R2 a] : CP T (n + 4) 169 [.imm 4 R1, .agg R2] = (Zo l a).map fun r => .tup [.own 4 (r.1.map VO), .b r.2] := by
 rcases H1, H2 with ⟨⟨rfl⟩, ⟨rfl⟩⟩
 rw [Qi]
 simp -dsimp +contextual only [↓evA, eZ, Nat.reduceAdd, Nat.reduceMul, Nat.reduceBEq, Nat.reduceLeDiff, Nat.reduceLT, Tryz.func169, Tryz.f169, QFr, Qrz, QdB]
 try simp only [Zo, eY]
 try simp only [List.contains_nil, Bool.not_false, Bool.and_true, VB, List.length_append, List.length_cons, List.length_nil, Nat.zero_add, VN, Xc]
 all_goals first | rfl | (simp +contextual only [evN] <;> rfl)
theorem QgE (axNo axNow f a2 c) {R1 axFinds R2 axSecrets R3 axSlots R4 axClaims R5 axTrials R6 axChain R7 axBook} [H1 : EncL QE R1 axFinds] [H2 : EncL VF R2 axSecrets] [H3 : EncL Vi R3 axSlots] [H4 : EncL Qw R4 axClaims] [H5 : EncL Xk R5 axTrials] [H6 : EncL VT R6 axChain] [H7 : EncL VO R7 axBook] : CM T (n + 5) 296 [some (Ent.lst 8 R1), some (Ent.lst 3 R2), some (Ent.lst 3 R3), some (Ent.lst 5 R4), some (Ent.lst 4 R5), some (Ent.lst 5 R6), some (Ent.lst 4 R7)] [.agg [.i .i64 axNo, .sl 0, .sl 1, .sl 2, .sl 3, .sl 4, .sl 5, .sl 6, .i .i64 axNow], .i .i64 f, .i .i64 a2, .i .i64 c] = (Ze (⟨axNo, axFinds, axSecrets, axSlots, axClaims, axTrials, axChain, axBook, axNow⟩ : House) f a2 c).map fun r => .tup [.agg (JC r.1), .b r.2] := by
 rcases H1, H2, H3, H4, H5, H6, H7 with ⟨⟨rfl⟩, ⟨rfl⟩, ⟨rfl⟩, ⟨rfl⟩, ⟨rfl⟩, ⟨rfl⟩, ⟨rfl⟩⟩
 rw [QzN]
 simp -dsimp +contextual (maxSteps := 100000000) only [↓evA, eZ, Nat.reduceAdd, Nat.reduceMul, Nat.reduceBEq, Nat.reduceLeDiff, Nat.reduceLT, Tryz.func296, Tryz.f296, QLh, Qr5, QeE]
 try simp only [Ze, eY]
 all_goals rfl
theorem QiE (a2) {R1 a} [H1 : EncR Va R1 a] : CP T (n + 13) 244 [.agg R1, .i .i64 a2] = (QaC a a2).map fun r => .tup [.agg (JC r.1), .b r.2] := by
 obtain ⟨rfl⟩ := H1
 rw [Qi]
 simp -dsimp +contextual (maxSteps := 100000000) only [↓evA, eZ, Nat.reduceAdd, Nat.reduceMul, Nat.reduceBEq, Nat.reduceLeDiff, Nat.reduceLT, Tryz.func244, Tryz.f244, QEz, Qr2, srt, Qc0, JQ, ZA, Vu, Qcb, QdD, QeK, QlV, QgE, JY]
 try simp only [QaC, eY]
 try simp only [List.contains_nil, Bool.not_false, Bool.and_true, VB, List.length_append, List.length_cons, List.length_nil, Nat.zero_add, VN, Xc]
 all_goals rfl
theorem Qid (i k) {R1 l} [H1 : EncL Qa5 R1 l] : LP T (n + 1) 327 7 (frm [(0, .imm 3 R1), (3, .i .i64 i), (4, .i .i64 k)]) [] =
  Zs (run (Ji l i) k) (fun (zr : Bool) => (XE.ret, frm [(2, .b zr)], [])) (fun (zr : Unit) => (XE.exit 2, frm [(0, .imm 3 (l.map Qa5)), (3, .i .i64 i)], [])) := by
 obtain ⟨rfl⟩ := H1
 rw [QA]
 simp -dsimp only [↓evA, evB, Qm, Tryz.func327, Tryz.f327, QvQ, Ql8, TP, TZ, Nat.reduceAdd, Nat.reduceMul, Nat.reduceBEq, Nat.reduceLeDiff, Nat.reduceLT]
 apply Qu k
 intro k
 simp -dsimp +contextual only [↓evA, eZ, Nat.reduceAdd, Nat.reduceMul, Nat.reduceBEq, Nat.reduceLeDiff, Nat.reduceLT]
 try simp only [Ji, eY]
 all_goals rfl
theorem QhE (i) {R1 l} [H1 : EncL Qa5 R1 l] : LP T (n + 2) 327 2 (frm [(0, .imm 3 R1), (3, .i .i64 i)]) [] =
  Zs (run (Jt l) i) (fun (zr : Bool) => (XE.ret, frm [(2, .b zr)], [])) (fun (zr : Unit) => (XE.exit 0, frm [(0, .imm 3 (l.map Qa5))], [])) := by
 obtain ⟨rfl⟩ := H1
 rw [QA]
 simp -dsimp only [↓evA, evB, Qm, Tryz.func327, Tryz.f327, QvQ, Ql8, TP, TZ, Nat.reduceAdd, Nat.reduceMul, Nat.reduceBEq, Nat.reduceLeDiff, Nat.reduceLT]
 apply Qu i
 intro i
 simp -dsimp +contextual only [↓evA, eZ, Nat.reduceAdd, Nat.reduceMul, Nat.reduceBEq, Nat.reduceLeDiff, Nat.reduceLT, Ve, Qid]
 try simp only [Jt, eY]
 all_goals rfl
theorem Qkd {R1 l} [H1 : EncL Qa5 R1 l] : CP T (n + 3) 327 [.imm 3 R1] = (QcL l).map fun r => .b r := by
 obtain ⟨rfl⟩ := H1
 rw [Qi]
 simp -dsimp +contextual only [↓evA, eZ, Nat.reduceAdd, Nat.reduceMul, Nat.reduceBEq, Nat.reduceLeDiff, Nat.reduceLT, Tryz.func327, Tryz.f327, QvQ, Ql8, QhE]
 try simp only [QcL, eY]
 all_goals rfl
theorem Qf6 (i k) {R1 l R2 o} [H1 : EncL Qa5 R1 l] [H2 : EncL Qa5 R2 o] : LP T (n + 1) 328 6 (frm [(0, .imm 3 R1), (3, .sl 0), (4, .i .i64 i), (5, .i .i64 k)]) [some (Ent.lst 3 R2)] =
  (run (Jf l o i) k).map (fun (zr : Int) => (XE.exit 2, frm [(0, .imm 3 (l.map Qa5)), (3, .sl 0), (4, .i .i64 i), (5, .i .i64 zr)], [some (Ent.lst 3 (o.map Qa5))])) := by
 rcases H1, H2 with ⟨⟨rfl⟩, ⟨rfl⟩⟩
 rw [QA]
 simp -dsimp only [↓evA, evB, Qm, Tryz.func328, Tryz.f328, Qvr, Qmh, TP, TZ, Nat.reduceAdd, Nat.reduceMul, Nat.reduceBEq, Nat.reduceLeDiff, Nat.reduceLT]
 apply Qu k
 intro k
 simp -dsimp +contextual only [↓evA, eZ, Nat.reduceAdd, Nat.reduceMul, Nat.reduceBEq, Nat.reduceLeDiff, Nat.reduceLT]
 try simp only [Jf, eY]
 try simp only [List.contains_nil, Bool.not_false, Bool.and_true, VB, List.length_append, List.length_cons, List.length_nil, Nat.zero_add, VN, Xc]
 all_goals rfl
theorem Qf9 (i) {R1 l R2 o} [H1 : EncL Qa5 R1 l] [H2 : EncL Qa5 R2 o] : LP T (n + 2) 328 3 (frm [(0, .imm 3 R1), (3, .sl 0), (4, .i .i64 i)]) [some (Ent.lst 3 R2)] =
  (run (Xn l) (o, i)).map (fun (zr : (List Bid)) => (XE.exit 0, frm [(3, .sl 0)], [some (Ent.lst 3 (zr.map Qa5))])) := by
 rcases H1, H2 with ⟨⟨rfl⟩, ⟨rfl⟩⟩
 rw [QA]
 simp -dsimp only [↓evA, evB, Qm, Tryz.func328, Tryz.f328, Qvr, Qmh, TP, TZ, Nat.reduceAdd, Nat.reduceMul, Nat.reduceBEq, Nat.reduceLeDiff, Nat.reduceLT]
 apply Vg o i
 intro o i
 simp -dsimp +contextual only [↓evA, eZ, Nat.reduceAdd, Nat.reduceMul, Nat.reduceBEq, Nat.reduceLeDiff, Nat.reduceLT, Qf6]
 try simp only [Xn, eY]
 try simp only [List.contains_nil, Bool.not_false, Bool.and_true, VB, List.length_append, List.length_cons, List.length_nil, Nat.zero_add, VN, Xc]
 all_goals rfl
theorem Qi5 {R1 l} [H1 : EncL Qa5 R1 l] : CP T (n + 3) 328 [.imm 3 R1] = (Qax l).map fun r => .own 3 (r.map Qa5) := by
 obtain ⟨rfl⟩ := H1
 rw [Qi]
 simp -dsimp +contextual only [↓evA, eZ, Nat.reduceAdd, Nat.reduceMul, Nat.reduceBEq, Nat.reduceLeDiff, Nat.reduceLT, Tryz.func328, Tryz.f328, Qvr, Qmh, Qf9]
 try simp only [Qax, eY]
 try simp only [List.contains_nil, Bool.not_false, Bool.and_true, VB, List.length_append, List.length_cons, List.length_nil, Nat.zero_add, VN, Xc]
 all_goals first | rfl | (simp +contextual only [evN] <;> rfl)
theorem QlX {R1 l} [H1 : EncL Qa5 R1 l] : CP T (n + 4) 298 [.imm 3 R1] = (Qct l).map fun r => .tup [.i .i64 r.1, .i .i64 r.2] := by
 obtain ⟨rfl⟩ := H1
 rw [Qi]
 simp -dsimp +contextual only [↓evA, eZ, Nat.reduceAdd, Nat.reduceMul, Nat.reduceBEq, Nat.reduceLeDiff, Nat.reduceLT, Tryz.func298, Tryz.f298, QGY, Qrf, Qkd, Qi5]
 try simp only [Qct, eY]
 all_goals rfl
theorem QjB (k) : CP T (n + 2) 347 [.i .i64 k] = (Qcj k).map fun r => .i .i64 r := by
 rw [Qi]
 simp -dsimp +contextual only [↓evA, eZ, Nat.reduceAdd, Nat.reduceMul, Nat.reduceBEq, Nat.reduceLeDiff, Nat.reduceLT, Tryz.func347, Tryz.f347, QLA, Qq5, Ve]
 try simp only [Qcj, eY]
 all_goals rfl
theorem QkK {R1 f} [H1 : EncR QE R1 f] : CP T (n + 4) 339 [.agg R1] = (QcQ f).map fun r => .i .i64 r := by
 obtain ⟨rfl⟩ := H1
 rw [Qi]
 simp -dsimp +contextual only [↓evA, eZ, Nat.reduceAdd, Nat.reduceMul, Nat.reduceBEq, Nat.reduceLeDiff, Nat.reduceLT, Tryz.func339, Tryz.f339, QKL, QrL, QdM, QjB]
 try simp only [QcQ, eY]
 all_goals rfl
theorem QnD (a) {R1 f} [H1 : EncR QE R1 f] : CP T (n + 5) 329 [.agg R1, .i .i64 a] = (QcW f a).map fun r => .b r := by
 obtain ⟨rfl⟩ := H1
 rw [Qi]
 simp -dsimp +contextual only [↓evA, eZ, Nat.reduceAdd, Nat.reduceMul, Nat.reduceBEq, Nat.reduceLeDiff, Nat.reduceLT, Tryz.func329, Tryz.f329, QEY, Qsw, QdM, QkK]
 try simp only [QcW, eY]
 all_goals rfl
end Go.Proofs.YtkbilciipmijjaaGreat
