import Derived.Test.YtcdffihcfeajfaaGreatEq1
namespace Go.Proofs.YtcdffihcfeajfaaGreat
open Go Go.Proofs Go.Proofs.YtcdffihcfeajfaaGreat.Am
set_option maxHeartbeats 4000000
set_option linter.unusedVariables false
set_option linter.unusedSimpArgs false
set_option linter.defProp false
set_option maxRecDepth 100000
variable (n : Nat)
theorem Ql2 {R1 l} [H1 : EncL Vf R1 l] : CP T (n + 4) 251 [.imm 1 R1] = (Qae l).map fun r => .i .i64 r := by
 obtain ⟨rfl⟩ := H1
 rw [Qc]
 simp -dsimp +contextual only [↓evA, eZ, Nat.reduceAdd, Nat.reduceMul, Nat.reduceBEq, Nat.reduceLeDiff, Nat.reduceLT, Tryz.func251, Tryz.f251, QMN, QyS, Qog]
 try simp only [Qae, eY]
 all_goals rfl
theorem Qgz (b) {R1 a} [H1 : EncR Va R1 a] : CP T (n + 5) 217 [.i .i64 b, .agg R1] = (JI b a).map fun r => .i .i64 r := by
 obtain ⟨rfl⟩ := H1
 rw [Qc]
 simp -dsimp +contextual only [↓evA, eZ, Nat.reduceAdd, Nat.reduceMul, Nat.reduceBEq, Nat.reduceLeDiff, Nat.reduceLT, Tryz.func217, Tryz.f217, QSf, QB7, Ql2]
 try simp only [JI, eY]
 all_goals rfl
theorem QjY (a b k i) {R1 l} [H1 : EncL Va R1 l] : LP T (n + 1) 230 3 (frm [(0, .imm 5 R1), (1, .i .i64 a), (2, .i .i64 b), (7, .i .i64 k), (8, .i .i64 i)]) [] =
  (run (Jw l a b) (k, i)).map (fun (zr : Int) => (XE.exit 0, frm [(7, .i .i64 zr)], [])) := by
 obtain ⟨rfl⟩ := H1
 rw [Qm]
 simp -dsimp only [↓evA, evB, Qf, Tryz.func230, Tryz.f230, QLF, Qxg, TP, TZ, Nat.reduceAdd, Nat.reduceMul, Nat.reduceBEq, Nat.reduceLeDiff, Nat.reduceLT]
 apply QH k i
 intro k i
 simp -dsimp +contextual only [↓evA, eZ, Nat.reduceAdd, Nat.reduceMul, Nat.reduceBEq, Nat.reduceLeDiff, Nat.reduceLT]
 try simp only [Jw, eY]
 all_goals rfl
theorem QgZ (a b) {R1 l} [H1 : EncL Va R1 l] : CP T (n + 2) 230 [.imm 5 R1, .i .i64 a, .i .i64 b] = (Qb2 l a b).map fun r => .i .i64 r := by
 obtain ⟨rfl⟩ := H1
 rw [Qc]
 simp -dsimp +contextual only [↓evA, eZ, Nat.reduceAdd, Nat.reduceMul, Nat.reduceBEq, Nat.reduceLeDiff, Nat.reduceLT, Tryz.func230, Tryz.f230, QLF, Qxg, QjY]
 try simp only [Qb2, eY]
 all_goals rfl
theorem Qjt (a a2) {R1 l} [H1 : EncL Va R1 l] : LP T (n + 6) 152 3 (frm [(0, .imm 5 R1), (3, .i .i64 a), (4, .i .i64 a2)]) [] =
  VU (run (QL l) (a, a2)) (fun (zr : Bool) => (XE.ret, frm [(2, .b zr)], [])) (fun (zr : Unit) => (XE.exit 0, frm [(0, .imm 5 (l.map Va))], [])) := by
 obtain ⟨rfl⟩ := H1
 rw [Qm]
 simp -dsimp only [↓evA, evB, Qf, Tryz.func152, Tryz.f152, QNK, QyQ, TP, TZ, Nat.reduceAdd, Nat.reduceMul, Nat.reduceBEq, Nat.reduceLeDiff, Nat.reduceLT]
 apply QH a a2
 intro a a2
 simp -dsimp +contextual only [↓evA, eZ, Nat.reduceAdd, Nat.reduceMul, Nat.reduceBEq, Nat.reduceLeDiff, Nat.reduceLT, Qgz, Vr, QgZ]
 try simp only [QL, eY]
 all_goals rfl
theorem QeY {R1 l} [H1 : EncL Va R1 l] : CP T (n + 7) 152 [.imm 5 R1] = (VO l).map fun r => .b r := by
 obtain ⟨rfl⟩ := H1
 rw [Qc]
 simp -dsimp +contextual only [↓evA, eZ, Nat.reduceAdd, Nat.reduceMul, Nat.reduceBEq, Nat.reduceLeDiff, Nat.reduceLT, Tryz.func152, Tryz.f152, QNK, QyQ, Qjt]
 try simp only [VO, eY]
 all_goals rfl
theorem Qhu {R1 l R2 a} [H1 : EncL Va R1 l] [H2 : EncR Va R2 a] : CP T (n + 8) 132 [.imm 5 R1, .agg R2] = (QbT l a).map fun r => .tup [.own 5 (r.1.map Va), .b r.2] := by
 rcases H1, H2 with ⟨⟨rfl⟩, ⟨rfl⟩⟩
 rw [Qc]
 simp -dsimp +contextual only [↓evA, eZ, Nat.reduceAdd, Nat.reduceMul, Nat.reduceBEq, Nat.reduceLeDiff, Nat.reduceLT, Tryz.func132, Tryz.f132, QRY, QzY, Qgz, QeY]
 try simp only [QbT, eY]
 try simp only [List.contains_nil, Bool.not_false, Bool.and_true, VC, List.length_append, List.length_cons, List.length_nil, Nat.zero_add, Vz, VK]
 all_goals first | rfl | (simp +contextual only [evN] <;> rfl)
theorem QhV (a a3) {R1 l R2 a2} [H1 : EncL Qg R1 l] [H2 : EncR Qg R2 a2] : LP T (n + 1) 151 8 (frm [(0, .imm 5 R1), (3, .i .i64 a), (4, .ptr 0 0 0), (5, .i .i64 a3)]) [some (Ent.box R2)] =
  VU (run (Xh l a a2) a3) (fun (zr : Bool) => (XE.ret, frm [(2, .b zr)], [])) (fun (zr : Unit) => (XE.exit 2, frm [(0, .imm 5 (l.map Qg)), (3, .i .i64 a)], [])) := by
 rcases H1, H2 with ⟨⟨rfl⟩, ⟨rfl⟩⟩
 rw [Qm]
 simp -dsimp only [↓evA, evB, Qf, Tryz.func151, Tryz.f151, QFB, Qvo, TP, TZ, Nat.reduceAdd, Nat.reduceMul, Nat.reduceBEq, Nat.reduceLeDiff, Nat.reduceLT]
 apply Ql a3
 intro a3
 simp -dsimp +contextual only [↓evA, eZ, Nat.reduceAdd, Nat.reduceMul, Nat.reduceBEq, Nat.reduceLeDiff, Nat.reduceLT]
 try simp only [Xh, eY]
 all_goals rfl
theorem QhW (a) {R1 l} [H1 : EncL Qg R1 l] : LP T (n + 2) 151 2 (frm [(0, .imm 5 R1), (3, .i .i64 a)]) [] =
  VU (run (Vg l) a) (fun (zr : Bool) => (XE.ret, frm [(2, .b zr)], [])) (fun (zr : Unit) => (XE.exit 0, frm [(0, .imm 5 (l.map Qg))], [])) := by
 obtain ⟨rfl⟩ := H1
 rw [Qm]
 simp -dsimp only [↓evA, evB, Qf, Tryz.func151, Tryz.f151, QFB, Qvo, TP, TZ, Nat.reduceAdd, Nat.reduceMul, Nat.reduceBEq, Nat.reduceLeDiff, Nat.reduceLT]
 apply Ql a
 intro a
 simp -dsimp +contextual only [↓evA, eZ, Nat.reduceAdd, Nat.reduceMul, Nat.reduceBEq, Nat.reduceLeDiff, Nat.reduceLT, Vr, QhV]
 try simp only [Vg, eY]
 all_goals rfl
theorem QdY {R1 l} [H1 : EncL Qg R1 l] : CP T (n + 3) 151 [.imm 5 R1] = (Vc l).map fun r => .b r := by
 obtain ⟨rfl⟩ := H1
 rw [Qc]
 simp -dsimp +contextual only [↓evA, eZ, Nat.reduceAdd, Nat.reduceMul, Nat.reduceBEq, Nat.reduceLeDiff, Nat.reduceLT, Tryz.func151, Tryz.f151, QFB, Qvo, QhW]
 try simp only [Vc, eY]
 all_goals rfl
theorem Qhd (i) {R1 l} [H1 : EncL QX R1 l] : LP T (n + 2) 153 2 (frm [(0, .imm 4 R1), (3, .i .i64 i)]) [] =
  VU (run (V9 l) i) (fun (zr : Bool) => (XE.ret, frm [(2, .b zr)], [])) (fun (zr : Unit) => (XE.exit 0, frm [(0, .imm 4 (l.map QX))], [])) := by
 obtain ⟨rfl⟩ := H1
 rw [Qm]
 simp -dsimp only [↓evA, evB, Qf, Tryz.func153, Tryz.f153, QKF, Qzy, TP, TZ, Nat.reduceAdd, Nat.reduceMul, Nat.reduceBEq, Nat.reduceLeDiff, Nat.reduceLT]
 apply Ql i
 intro i
 simp -dsimp +contextual only [↓evA, eZ, Nat.reduceAdd, Nat.reduceMul, Nat.reduceBEq, Nat.reduceLeDiff, Nat.reduceLT, Vr]
 try simp only [V9, eY]
 all_goals rfl
theorem Qfp {R1 l} [H1 : EncL QX R1 l] : CP T (n + 3) 153 [.imm 4 R1] = (Jz l).map fun r => .b r := by
 obtain ⟨rfl⟩ := H1
 rw [Qc]
 simp -dsimp +contextual only [↓evA, eZ, Nat.reduceAdd, Nat.reduceMul, Nat.reduceBEq, Nat.reduceLeDiff, Nat.reduceLT, Tryz.func153, Tryz.f153, QKF, Qzy, Qhd]
 try simp only [Jz, eY]
 all_goals rfl
theorem Qmp (a k) {R1 l} [H1 : EncL Vf R1 l] : LP T (n + 1) 264 2 (frm [(0, .imm 1 R1), (1, .i .i64 a), (5, .i .i64 k)]) [] =
  (run (JM l a) k).map (fun (zr : Int) => (XE.exit 0, frm [(0, .imm 1 (l.map Vf)), (1, .i .i64 a), (5, .i .i64 zr)], [])) := by
 obtain ⟨rfl⟩ := H1
 rw [Qm]
 simp -dsimp only [↓evA, evB, Qf, Tryz.func264, Tryz.f264, QLH, Qxx, TP, TZ, Nat.reduceAdd, Nat.reduceMul, Nat.reduceBEq, Nat.reduceLeDiff, Nat.reduceLT]
 apply Ql k
 intro k
 simp -dsimp +contextual only [↓evA, eZ, Nat.reduceAdd, Nat.reduceMul, Nat.reduceBEq, Nat.reduceLeDiff, Nat.reduceLT]
 try simp only [JM, eY]
 try simp only [List.contains_nil, Bool.not_false, Bool.and_true, VC, List.length_append, List.length_cons, List.length_nil, Nat.zero_add, Vz, VK]
 all_goals rfl
theorem Qrl (a) {R1 l} [H1 : EncL Vf R1 l] : CP T (n + 2) 264 [.imm 1 R1, .i .i64 a] = (QcS l a).map fun r => .own 1 (r.map Vf) := by
 obtain ⟨rfl⟩ := H1
 rw [Qc]
 simp -dsimp +contextual only [↓evA, eZ, Nat.reduceAdd, Nat.reduceMul, Nat.reduceBEq, Nat.reduceLeDiff, Nat.reduceLT, Tryz.func264, Tryz.f264, QLH, Qxx, Qmp]
 try simp only [QcS, eY]
 try simp only [List.contains_nil, Bool.not_false, Bool.and_true, VC, List.length_append, List.length_cons, List.length_nil, Nat.zero_add, Vz, VK]
 all_goals first | rfl | (simp +contextual only [evN] <;> rfl)
theorem Qkp (a i) {R1 l R2 o} [H1 : EncL Va R1 l] [H2 : EncL Vf R2 o] : LP T (n + 8) 231 3 (frm [(0, .imm 5 R1), (1, .i .i64 a), (5, .sl 0), (6, .i .i64 i)]) [some (Ent.lst 1 R2)] =
  (run (Zr l a) (o, i)).map (fun (zr : (List Int)) => (XE.exit 0, frm [(5, .sl 0)], [some (Ent.lst 1 (zr.map Vf))])) := by
 rcases H1, H2 with ⟨⟨rfl⟩, ⟨rfl⟩⟩
 rw [Qm]
 simp -dsimp only [↓evA, evB, Qf, Tryz.func231, Tryz.f231, QKo, Qzj, TP, TZ, Nat.reduceAdd, Nat.reduceMul, Nat.reduceBEq, Nat.reduceLeDiff, Nat.reduceLT]
 apply QH o i
 intro o i
 simp -dsimp +contextual only [↓evA, eZ, Nat.reduceAdd, Nat.reduceMul, Nat.reduceBEq, Nat.reduceLeDiff, Nat.reduceLT, QeY, QgZ, Qrl]
 try simp only [Zr, eY]
 all_goals rfl
theorem Qm8 (a) {R1 l} [H1 : EncL Va R1 l] : CP T (n + 9) 231 [.imm 5 R1, .i .i64 a] = (Qdd l a).map fun r => .own 1 (r.map Vf) := by
 obtain ⟨rfl⟩ := H1
 rw [Qc]
 simp -dsimp +contextual only [↓evA, eZ, Nat.reduceAdd, Nat.reduceMul, Nat.reduceBEq, Nat.reduceLeDiff, Nat.reduceLT, Tryz.func231, Tryz.f231, QKo, Qzj, Qkp]
 try simp only [Qdd, eY]
 all_goals first | rfl | (simp +contextual only [evN] <;> rfl)
theorem Qh9 (i i2) {R1 l} [H1 : EncL Qv R1 l] : LP T (n + 1) 117 2 (frm [(0, .imm 8 R1), (1, .i .i64 i), (5, .i .i64 i2)]) [] =
  VU (run (Jl l i) i2) (fun (zr : Int) => (XE.ret, frm [(4, .i .i64 zr)], [])) (fun (zr : Unit) => (XE.exit 0, frm [], [])) := by
 obtain ⟨rfl⟩ := H1
 rw [Qm]
 simp -dsimp only [↓evA, evB, Qf, Tryz.func117, Tryz.f117, QN1, QzN, TP, TZ, Nat.reduceAdd, Nat.reduceMul, Nat.reduceBEq, Nat.reduceLeDiff, Nat.reduceLT]
 apply Ql i2
 intro i2
 simp -dsimp +contextual only [↓evA, eZ, Nat.reduceAdd, Nat.reduceMul, Nat.reduceBEq, Nat.reduceLeDiff, Nat.reduceLT]
 try simp only [Jl, eY]
 all_goals rfl
theorem JW (i) {R1 l} [H1 : EncL Qv R1 l] : CP T (n + 2) 117 [.imm 8 R1, .i .i64 i] = (VX l i).map fun r => .i .i64 r := by
 obtain ⟨rfl⟩ := H1
 rw [Qc]
 simp -dsimp +contextual only [↓evA, eZ, Nat.reduceAdd, Nat.reduceMul, Nat.reduceBEq, Nat.reduceLeDiff, Nat.reduceLT, Tryz.func117, Tryz.f117, QN1, QzN, Qh9]
 try simp only [VX, eY]
 all_goals rfl
theorem Ql9 (a i) {R1 l} [H1 : EncL Vf R1 l] : LP T (n + 1) 232 2 (frm [(0, .imm 1 R1), (1, .i .i64 a), (5, .i .i64 i)]) [] =
  VU (run (Qbe l a) i) (fun (zr : Bool) => (XE.ret, frm [(4, .b zr)], [])) (fun (zr : Unit) => (XE.exit 0, frm [], [])) := by
 obtain ⟨rfl⟩ := H1
 rw [Qm]
 simp -dsimp only [↓evA, evB, Qf, Tryz.func232, Tryz.f232, QLJ, Qw3, TP, TZ, Nat.reduceAdd, Nat.reduceMul, Nat.reduceBEq, Nat.reduceLeDiff, Nat.reduceLT]
 apply Ql i
 intro i
 simp -dsimp +contextual only [↓evA, eZ, Nat.reduceAdd, Nat.reduceMul, Nat.reduceBEq, Nat.reduceLeDiff, Nat.reduceLT]
 try simp only [Qbe, eY]
 all_goals rfl
theorem Qqk (a) {R1 l} [H1 : EncL Vf R1 l] : CP T (n + 2) 232 [.imm 1 R1, .i .i64 a] = (QeM l a).map fun r => .b r := by
 obtain ⟨rfl⟩ := H1
 rw [Qc]
 simp -dsimp +contextual only [↓evA, eZ, Nat.reduceAdd, Nat.reduceMul, Nat.reduceBEq, Nat.reduceLeDiff, Nat.reduceLT, Tryz.func232, Tryz.f232, QLJ, Qw3, Ql9]
 try simp only [QeM, eY]
 all_goals rfl
theorem QhQ (a3) {R1 a R2 a2} [H1 : EncR QD R1 a] [H2 : EncL Vf R2 a2] : LP T (n + 3) 154 5 (frm [(1, .ptr 0 0 0), (3, .sl 1), (4, .i .i64 a3)]) [some (Ent.box R1), some (Ent.lst 1 R2)] =
  VU (run (X9 a a2) a3) (fun (zr : Bool) => (XE.ret, frm [(2, .b zr)], [])) (fun (zr : Unit) => (XE.exit 0, frm [(1, .ptr 0 0 0), (3, .sl 1)], [some (Ent.box (QD a)), some (Ent.lst 1 (a2.map Vf))])) := by
 rcases H1, H2 with ⟨⟨rfl⟩, ⟨rfl⟩⟩
 rw [Qm]
 simp -dsimp only [↓evA, evB, Qf, Tryz.func154, Tryz.f154, QBP, Qte, TP, TZ, Nat.reduceAdd, Nat.reduceMul, Nat.reduceBEq, Nat.reduceLeDiff, Nat.reduceLT]
 apply Ql a3
 intro a3
 simp -dsimp +contextual (maxSteps := 100000000) only [↓evA, eZ, Nat.reduceAdd, Nat.reduceMul, Nat.reduceBEq, Nat.reduceLeDiff, Nat.reduceLT, JW]
 try simp only [X9, eY]
 all_goals rfl
theorem Qg6 (a3) {R1 a R2 a2} [H1 : EncR QD R1 a] [H2 : EncL Vf R2 a2] : LP T (n + 3) 154 10 (frm [(1, .ptr 0 0 0), (3, .sl 1), (5, .i .i64 a3)]) [some (Ent.box R1), some (Ent.lst 1 R2)] =
  VU (run (XD a a2) a3) (fun (zr : Bool) => (XE.ret, frm [(2, .b zr)], [])) (fun (zr : Unit) => (XE.exit 2, frm [(1, .ptr 0 0 0)], [some (Ent.box (QD a))])) := by
 rcases H1, H2 with ⟨⟨rfl⟩, ⟨rfl⟩⟩
 rw [Qm]
 simp -dsimp only [↓evA, evB, Qf, Tryz.func154, Tryz.f154, QBP, Qte, TP, TZ, Nat.reduceAdd, Nat.reduceMul, Nat.reduceBEq, Nat.reduceLeDiff, Nat.reduceLT]
 apply Ql a3
 intro a3
 simp -dsimp +contextual (maxSteps := 100000000) only [↓evA, eZ, Nat.reduceAdd, Nat.reduceMul, Nat.reduceBEq, Nat.reduceLeDiff, Nat.reduceLT, Qd8, Qqk]
 try simp only [XD, eY]
 all_goals rfl
theorem Qg8 (a2) {R1 a} [H1 : EncR QD R1 a] : LP T (n + 3) 154 16 (frm [(1, .ptr 0 0 0), (7, .i .i64 a2)]) [some (Ent.box R1)] =
  VU (run (XN a) a2) (fun (zr : Bool) => (XE.ret, frm [(2, .b zr)], [])) (fun (zr : Unit) => (XE.exit 4, frm [], [])) := by
 obtain ⟨rfl⟩ := H1
 rw [Qm]
 simp -dsimp only [↓evA, evB, Qf, Tryz.func154, Tryz.f154, QBP, Qte, TP, TZ, Nat.reduceAdd, Nat.reduceMul, Nat.reduceBEq, Nat.reduceLeDiff, Nat.reduceLT]
 apply Ql a2
 intro a2
 simp -dsimp +contextual (maxSteps := 100000000) only [↓evA, eZ, Nat.reduceAdd, Nat.reduceMul, Nat.reduceBEq, Nat.reduceLeDiff, Nat.reduceLT, JW]
 try simp only [XN, eY]
 all_goals rfl
theorem QlB {R1 a} [H1 : EncR QD R1 a] : CP T (n + 10) 154 [.agg R1] = (Qam a).map fun r => .b r := by
 obtain ⟨rfl⟩ := H1
 rw [Qc]
 simp -dsimp +contextual (maxSteps := 100000000) only [↓evA, eZ, Nat.reduceAdd, Nat.reduceMul, Nat.reduceBEq, Nat.reduceLeDiff, Nat.reduceLT, Tryz.func154, Tryz.f154, QBP, Qte, Qm8, QhQ, Qg6, Qg8]
 try simp only [Qam, eY]
 all_goals rfl
theorem QgY {R1 a} [H1 : EncR QJ R1 a] : CP T (n + 2) 187 [.agg R1] = (Qay a).map fun r => .b r := by
 obtain ⟨rfl⟩ := H1
 rw [Qc]
 simp -dsimp +contextual only [↓evA, eZ, Nat.reduceAdd, Nat.reduceMul, Nat.reduceBEq, Nat.reduceLeDiff, Nat.reduceLT, Tryz.func187, Tryz.f187, QRs, QBw, Vr]
 try simp only [Qay, eY]
 all_goals rfl
theorem QjF (a i) {R1 l} [H1 : EncL QC R1 l] : LP T (n + 1) 184 2 (frm [(0, .imm 3 R1), (1, .i .i64 a), (5, .i .i64 i)]) [] =
  VU (run (Zi l a) i) (fun (zr : Int) => (XE.ret, frm [(4, .i .i64 zr)], [])) (fun (zr : Unit) => (XE.exit 0, frm [], [])) := by
 obtain ⟨rfl⟩ := H1
 rw [Qm]
 simp -dsimp only [↓evA, evB, Qf, Tryz.func184, Tryz.f184, QM2, QwX, TP, TZ, Nat.reduceAdd, Nat.reduceMul, Nat.reduceBEq, Nat.reduceLeDiff, Nat.reduceLT]
 apply Ql i
 intro i
 simp -dsimp +contextual only [↓evA, eZ, Nat.reduceAdd, Nat.reduceMul, Nat.reduceBEq, Nat.reduceLeDiff, Nat.reduceLT]
 try simp only [Zi, eY]
 all_goals rfl
theorem QoE (a) {R1 l} [H1 : EncL QC R1 l] : CP T (n + 2) 184 [.imm 3 R1, .i .i64 a] = (QeF l a).map fun r => .i .i64 r := by
 obtain ⟨rfl⟩ := H1
 rw [Qc]
 simp -dsimp +contextual only [↓evA, eZ, Nat.reduceAdd, Nat.reduceMul, Nat.reduceBEq, Nat.reduceLeDiff, Nat.reduceLT, Tryz.func184, Tryz.f184, QM2, QwX, QjF]
 try simp only [QeF, eY]
 all_goals rfl
theorem QgW (a) {R1 l} [H1 : EncL QC R1 l] : CP T (n + 3) 103 [.imm 3 R1, .i .i64 a] = (Qb4 l a).map fun r => .own 2 (r.map Q9) := by
 obtain ⟨rfl⟩ := H1
 rw [Qc]
 simp -dsimp +contextual only [↓evA, eZ, Nat.reduceAdd, Nat.reduceMul, Nat.reduceBEq, Nat.reduceLeDiff, Nat.reduceLT, Tryz.func103, Tryz.f103, QS4, QBL, QoE]
 try simp only [Qb4, eY]
 all_goals first | rfl | (simp +contextual only [evN] <;> rfl)
theorem QoA (a b) : CP T (n + 1) 209 [.i .i64 a, .i .i64 b] = (QfH a b).map fun r => .i .i64 r := by
 rw [Qc]
 simp -dsimp +contextual only [↓evA, eZ, Nat.reduceAdd, Nat.reduceMul, Nat.reduceBEq, Nat.reduceLeDiff, Nat.reduceLT, Tryz.func209, Tryz.f209, QPK, QCQ]
 try simp only [QfH, eY]
 all_goals rfl
theorem Qod {R1 l} [H1 : EncL Q9 R1 l] : CP T (n + 2) 189 [.imm 2 R1] = (Qda l).map fun r => .i .i64 r := by
 obtain ⟨rfl⟩ := H1
 rw [Qc]
 simp -dsimp +contextual only [↓evA, eZ, Nat.reduceAdd, Nat.reduceMul, Nat.reduceBEq, Nat.reduceLeDiff, Nat.reduceLT, Tryz.func189, Tryz.f189, QRE, n189, QoA]
 try simp only [Qda, eY]
 all_goals rfl
theorem Qdh {R1 l R2 a} [H1 : EncL Q9 R1 l] [H2 : EncR QJ R2 a] : CP T (n + 4) 105 [.imm 2 R1, .agg R2] = (Jy l a).map fun r => .i .i64 r := by
 rcases H1, H2 with ⟨⟨rfl⟩, ⟨rfl⟩⟩
 rw [Qc]
 simp -dsimp +contextual only [↓evA, eZ, Nat.reduceAdd, Nat.reduceMul, Nat.reduceBEq, Nat.reduceLeDiff, Nat.reduceLT, Tryz.func105, Tryz.f105, QTo, QBS, QgY, Qes, Qod]
 try simp only [Jy, eY]
 all_goals rfl
theorem QhZ (a2) {R1 a} [H1 : EncR QD R1 a] : LP T (n + 5) 155 4 (frm [(1, .ptr 0 0 0), (3, .i .i64 a2)]) [some (Ent.box R1)] =
  VU (run (Jf a) a2) (fun (zr : Bool) => (XE.ret, frm [(2, .b zr)], [])) (fun (zr : Unit) => (XE.exit 0, frm [], [])) := by
 obtain ⟨rfl⟩ := H1
 rw [Qm]
 simp -dsimp only [↓evA, evB, Qf, Tryz.func155, Tryz.f155, QIu, Qze, TP, TZ, Nat.reduceAdd, Nat.reduceMul, Nat.reduceBEq, Nat.reduceLeDiff, Nat.reduceLT]
 apply Ql a2
 intro a2
 simp -dsimp +contextual (maxSteps := 100000000) only [↓evA, eZ, Nat.reduceAdd, Nat.reduceMul, Nat.reduceBEq, Nat.reduceLeDiff, Nat.reduceLT, JW, QgY, QgW, Qdh]
 try simp only [Jf, eY]
 all_goals rfl
theorem Qlc {R1 a} [H1 : EncR QD R1 a] : CP T (n + 6) 155 [.agg R1] = (Z4 a).map fun r => .b r := by
 obtain ⟨rfl⟩ := H1
 rw [Qc]
 simp -dsimp +contextual (maxSteps := 100000000) only [↓evA, eZ, Nat.reduceAdd, Nat.reduceMul, Nat.reduceBEq, Nat.reduceLeDiff, Nat.reduceLT, Tryz.func155, Tryz.f155, QIu, Qze, QhZ]
 try simp only [Z4, eY]
 all_goals rfl
theorem Qbp {R1 a} [H1 : EncR QD R1 a] : CP T (n + 11) 60 [.agg R1] = (Xk a).map fun r => .b r := by
 obtain ⟨rfl⟩ := H1
 rw [Qc]
 simp -dsimp +contextual (maxSteps := 100000000) only [↓evA, eZ, Nat.reduceAdd, Nat.reduceMul, Nat.reduceBEq, Nat.reduceLeDiff, Nat.reduceLT, Tryz.func60, Tryz.f60, a60, n60, Vr, Qgo, Qfm, Qew, QdY, QeY, Qfp, QlB, Qlc]
 try simp only [Xk, eY]
 all_goals rfl
theorem Zb (oxNo oxNow o2) {R1 a R2 oxFinds R3 oxSecrets R4 oxSlots R5 oxClaims R6 oxTrials R7 oxChain R8 oxBook} [H1 : EncR QD R1 a] [H2 : EncL Qv R2 oxFinds] [H3 : EncL QG R3 oxSecrets] [H4 : EncL QP R4 oxSlots] [H5 : EncL Qg R5 oxClaims] [H6 : EncL QJ R6 oxTrials] [H7 : EncL Va R7 oxChain] [H8 : EncL QX R8 oxBook] : CM T (n + 12) 92 [some (Ent.lst 8 R2), some (Ent.lst 3 R3), some (Ent.lst 3 R4), some (Ent.lst 5 R5), some (Ent.lst 4 R6), some (Ent.lst 5 R7), some (Ent.lst 4 R8)] [.agg R1, .agg [.i .i64 oxNo, .sl 0, .sl 1, .sl 2, .sl 3, .sl 4, .sl 5, .sl 6, .i .i64 oxNow], .b o2] = (Qo a (⟨oxNo, oxFinds, oxSecrets, oxSlots, oxClaims, oxTrials, oxChain, oxBook, oxNow⟩ : House) o2).map fun r => .tup [.agg (VG r.1), .b r.2] := by
 rcases H1, H2, H3, H4, H5, H6, H7, H8 with ⟨⟨rfl⟩, ⟨rfl⟩, ⟨rfl⟩, ⟨rfl⟩, ⟨rfl⟩, ⟨rfl⟩, ⟨rfl⟩, ⟨rfl⟩⟩
 rw [Qpr]
 simp -dsimp +contextual (maxSteps := 100000000) only [↓evA, eZ, Nat.reduceAdd, Nat.reduceMul, Nat.reduceBEq, Nat.reduceLeDiff, Nat.reduceLT, Tryz.func92, Tryz.f92, a92, n92, Qbp, V2]
 try simp only [Qo, eY]
 all_goals rfl
theorem Qmk (a4) {R1 a R2 a2 R3 a3} [H1 : EncR QD R1 a] [H2 : EncR Qv R2 a2] [H3 : EncL Q9 R3 a3] : CP T (n + 13) 35 [.agg R1, .agg R2, .imm 2 R3, .i .i64 a4] = (Qcy a a2 a3 a4).map fun r => .tup [.agg (VG r.1), .b r.2] := by
 rcases H1, H2, H3 with ⟨⟨rfl⟩, ⟨rfl⟩, ⟨rfl⟩⟩
 rw [Qc]
 simp -dsimp +contextual (maxSteps := 100000000) only [↓evA, eZ, Nat.reduceAdd, Nat.reduceMul, Nat.reduceBEq, Nat.reduceLeDiff, Nat.reduceLT, Tryz.func35, Tryz.f35, a35, n35, srt, V2, QoU, Qlz, QnA, Qhu, Zb]
 try simp only [Qcy, eY]
 all_goals rfl
theorem QiA (a2 a3 a4) {R1 l R2 a} [H1 : EncL Qg R1 l] [H2 : EncR Qg R2 a] : LP T (n + 1) 111 4 (frm [(0, .imm 5 R1), (3, .ptr 0 0 0), (6, .i .i64 a2), (7, .b a3), (8, .i .i64 a4)]) [some (Ent.box R2)] =
  (run (XG l a) (a2, a3, a4)).map (fun (zr : Int × Bool) => (XE.exit 0, frm [(0, .imm 5 (l.map Qg)), (3, .ptr 0 0 0), (6, .i .i64 zr.1), (7, .b zr.2)], [some (Ent.box (Qg a))])) := by
 rcases H1, H2 with ⟨⟨rfl⟩, ⟨rfl⟩⟩
 rw [Qm]
 simp -dsimp only [↓evA, evB, Qf, Tryz.func111, Tryz.f111, QLt, QyK, TP, TZ, Nat.reduceAdd, Nat.reduceMul, Nat.reduceBEq, Nat.reduceLeDiff, Nat.reduceLT]
 apply Za a2 a3 a4
 intro a2 a3 a4
 simp -dsimp +contextual only [↓evA, eZ, Nat.reduceAdd, Nat.reduceMul, Nat.reduceBEq, Nat.reduceLeDiff, Nat.reduceLT]
 try simp only [XG, eY]
 try simp only [List.contains_nil, Bool.not_false, Bool.and_true, VC, List.length_append, List.length_cons, List.length_nil, Nat.zero_add, Vz, VK]
 all_goals rfl
theorem QmG {R1 l R2 a} [H1 : EncL Qg R1 l] [H2 : EncR Qg R2 a] : CP T (n + 4) 111 [.imm 5 R1, .agg R2] = (Qbb l a).map fun r => .tup [.own 5 (r.1.map Qg), .b r.2] := by
 rcases H1, H2 with ⟨⟨rfl⟩, ⟨rfl⟩⟩
 rw [Qc]
 simp -dsimp +contextual only [↓evA, eZ, Nat.reduceAdd, Nat.reduceMul, Nat.reduceBEq, Nat.reduceLeDiff, Nat.reduceLT, Tryz.func111, Tryz.f111, QLt, QyK, QdY, QiA]
 try simp only [Qbb, eY]
 try simp only [List.contains_nil, Bool.not_false, Bool.and_true, VC, List.length_append, List.length_cons, List.length_nil, Nat.zero_add, Vz, VK]
 all_goals first | rfl | (simp +contextual only [evN] <;> rfl)
theorem Qh2 (a a2 a4xNo a4xNow a5 a6) {R1 a3 R2 a4xFinds R3 a4xSecrets R4 a4xSlots R5 a4xClaims R6 a4xTrials R7 a4xChain R8 a4xBook} [H1 : EncR QD R1 a3] [H2 : EncL Qv R2 a4xFinds] [H3 : EncL QG R3 a4xSecrets] [H4 : EncL QP R4 a4xSlots] [H5 : EncL Qg R5 a4xClaims] [H6 : EncL QJ R6 a4xTrials] [H7 : EncL Va R7 a4xChain] [H8 : EncL QX R8 a4xBook] : LP T (n + 1) 28 5 (frm [(1, .i .i64 a), (3, .i .i64 a2), (4, .ptr 0 0 0), (8, .ptr 1 0 0), (10, .ptr 2 0 0), (12, .b a5), (13, .i .i64 a6)]) [some (Ent.box R1), some (Ent.box [.i .i64 0, .nil, .nil, .nil, .nil, .nil, .nil, .nil, .i .i64 0]), some (Ent.box [.i .i64 a4xNo, .sl 3, .sl 4, .sl 5, .sl 6, .sl 7, .sl 8, .sl 9, .i .i64 a4xNow]), some (Ent.lst 8 R2), some (Ent.lst 3 R3), some (Ent.lst 3 R4), some (Ent.lst 5 R5), some (Ent.lst 4 R6), some (Ent.lst 5 R7), some (Ent.lst 4 R8)] =
  (run (Jh a a2 a3 (⟨a4xNo, a4xFinds, a4xSecrets, a4xSlots, a4xClaims, a4xTrials, a4xChain, a4xBook, a4xNow⟩ : House) a5) a6).map (fun (zr : Int) => (XE.exit 0, frm [(1, .i .i64 a), (3, .i .i64 a2), (4, .ptr 0 0 0), (8, .ptr 1 0 0), (10, .ptr 2 0 0), (12, .b a5), (13, .i .i64 zr)], [some (Ent.box (QD a3)), some (Ent.box [.i .i64 0, .nil, .nil, .nil, .nil, .nil, .nil, .nil, .i .i64 0]), some (Ent.box [.i .i64 a4xNo, .sl 3, .sl 4, .sl 5, .sl 6, .sl 7, .sl 8, .sl 9, .i .i64 a4xNow]), some (Ent.lst 8 (a4xFinds.map Qv)), some (Ent.lst 3 (a4xSecrets.map QG)), some (Ent.lst 3 (a4xSlots.map QP)), some (Ent.lst 5 (a4xClaims.map Qg)), some (Ent.lst 4 (a4xTrials.map QJ)), some (Ent.lst 5 (a4xChain.map Va)), some (Ent.lst 4 (a4xBook.map QX))])) := by
 rcases H1, H2, H3, H4, H5, H6, H7, H8 with ⟨⟨rfl⟩, ⟨rfl⟩, ⟨rfl⟩, ⟨rfl⟩, ⟨rfl⟩, ⟨rfl⟩, ⟨rfl⟩, ⟨rfl⟩⟩
 rw [Qm]
 simp -dsimp only [↓evA, evB, Qf, Tryz.func28, Tryz.f28, a28, n28, TP, TZ, Nat.reduceAdd, Nat.reduceMul, Nat.reduceBEq, Nat.reduceLeDiff, Nat.reduceLT]
 apply Ql a6
 intro a6
 simp -dsimp +contextual (maxSteps := 100000000) only [↓evA, eZ, Nat.reduceAdd, Nat.reduceMul, Nat.reduceBEq, Nat.reduceLeDiff, Nat.reduceLT, srt]
 try simp only [Jh, eY]
 try simp only [List.contains_nil, Bool.not_false, Bool.and_true, VC, List.length_append, List.length_cons, List.length_nil, Nat.zero_add, Vz, VK]
 all_goals rfl
theorem Qlh (a2 a3 a4) {R1 a} [H1 : EncR QD R1 a] : CP T (n + 13) 28 [.agg R1, .i .i64 a2, .i .i64 a3, .i .i64 a4] = (Qap a a2 a3 a4).map fun r => .tup [.agg (VG r.1), .b r.2] := by
 obtain ⟨rfl⟩ := H1
 rw [Qc]
 simp -dsimp +contextual (maxSteps := 100000000) only [↓evA, eZ, Nat.reduceAdd, Nat.reduceMul, Nat.reduceBEq, Nat.reduceLeDiff, Nat.reduceLT, Tryz.func28, Tryz.f28, a28, n28, srt, V2, QmG, Qd8, Zb, Qh2]
 try simp only [Qap, eY]
 try simp only [List.contains_nil, Bool.not_false, Bool.and_true, VC, List.length_append, List.length_cons, List.length_nil, Nat.zero_add, Vz, VK]
 all_goals rfl
theorem QhS (i i2) {R1 l} [H1 : EncL Qg R1 l] : LP T (n + 1) 102 2 (frm [(0, .imm 5 R1), (1, .i .i64 i), (5, .i .i64 i2)]) [] =
  VU (run (Jp l i) i2) (fun (zr : Int) => (XE.ret, frm [(4, .i .i64 zr)], [])) (fun (zr : Unit) => (XE.exit 0, frm [], [])) := by
 obtain ⟨rfl⟩ := H1
 rw [Qm]
 simp -dsimp only [↓evA, evB, Qf, Tryz.func102, Tryz.f102, QKG, Qyy, TP, TZ, Nat.reduceAdd, Nat.reduceMul, Nat.reduceBEq, Nat.reduceLeDiff, Nat.reduceLT]
 apply Ql i2
 intro i2
 simp -dsimp +contextual only [↓evA, eZ, Nat.reduceAdd, Nat.reduceMul, Nat.reduceBEq, Nat.reduceLeDiff, Nat.reduceLT]
 try simp only [Jp, eY]
 all_goals rfl
theorem Qd0 (i) {R1 l} [H1 : EncL Qg R1 l] : CP T (n + 2) 102 [.imm 5 R1, .i .i64 i] = (J9 l i).map fun r => .i .i64 r := by
 obtain ⟨rfl⟩ := H1
 rw [Qc]
 simp -dsimp +contextual only [↓evA, eZ, Nat.reduceAdd, Nat.reduceMul, Nat.reduceBEq, Nat.reduceLeDiff, Nat.reduceLT, Tryz.func102, Tryz.f102, QKG, Qyy, QhS]
 try simp only [J9, eY]
 all_goals rfl
theorem Qi5 (c a) {R1 l} [H1 : EncL Q9 R1 l] : CP T (n + 5) 240 [.imm 2 R1, .i .i64 c, .i .i64 a] = (Qak l c a).map fun r => .i .i64 r := by
 obtain ⟨rfl⟩ := H1
 rw [Qc]
 simp -dsimp +contextual only [↓evA, eZ, Nat.reduceAdd, Nat.reduceMul, Nat.reduceBEq, Nat.reduceLeDiff, Nat.reduceLT, Tryz.func240, Tryz.f240, QTc, QA8, Qes, Vr, Ql2, QnO]
 try simp only [Qak, eY]
 all_goals rfl
theorem Qij {R1 l R2 a} [H1 : EncL Q9 R1 l] [H2 : EncR QJ R2 a] : CP T (n + 6) 185 [.imm 2 R1, .agg R2] = (ZL l a).map fun r => .i .i64 r := by
 rcases H1, H2 with ⟨⟨rfl⟩, ⟨rfl⟩⟩
 rw [Qc]
 simp -dsimp +contextual only [↓evA, eZ, Nat.reduceAdd, Nat.reduceMul, Nat.reduceBEq, Nat.reduceLeDiff, Nat.reduceLT, Tryz.func185, Tryz.f185, QUY, QAW, Qdh, Qi5]
 try simp only [ZL, eY]
 all_goals rfl
theorem QiC (q i) {R1 l} [H1 : EncL Q9 R1 l] : LP T (n + 1) 186 2 (frm [(0, .imm 2 R1), (1, .i .i64 q), (5, .i .i64 i)]) [] =
  VU (run (JU l q) i) (fun (zr : Int) => (XE.ret, frm [(4, .i .i64 zr)], [])) (fun (zr : Unit) => (XE.exit 0, frm [], [])) := by
 obtain ⟨rfl⟩ := H1
 rw [Qm]
 simp -dsimp only [↓evA, evB, Qf, Tryz.func186, Tryz.f186, QMP, Qzf, TP, TZ, Nat.reduceAdd, Nat.reduceMul, Nat.reduceBEq, Nat.reduceLeDiff, Nat.reduceLT]
 apply Ql i
 intro i
 simp -dsimp +contextual only [↓evA, eZ, Nat.reduceAdd, Nat.reduceMul, Nat.reduceBEq, Nat.reduceLeDiff, Nat.reduceLT]
 try simp only [JU, eY]
 all_goals rfl
theorem Qmq (q) {R1 l} [H1 : EncL Q9 R1 l] : CP T (n + 2) 186 [.imm 2 R1, .i .i64 q] = (Qcm l q).map fun r => .i .i64 r := by
 obtain ⟨rfl⟩ := H1
 rw [Qc]
 simp -dsimp +contextual only [↓evA, eZ, Nat.reduceAdd, Nat.reduceMul, Nat.reduceBEq, Nat.reduceLeDiff, Nat.reduceLT, Tryz.func186, Tryz.f186, QMP, Qzf, QiC]
 try simp only [Qcm, eY]
 all_goals rfl
theorem QjD (a2) {R1 l R2 a} [H1 : EncL Q9 R1 l] [H2 : EncR QJ R2 a] : CP T (n + 7) 104 [.imm 2 R1, .agg R2, .i .i64 a2] = (QaZ l a a2).map fun r => .tup [.agg (QJ r.1), .b r.2] := by
 rcases H1, H2 with ⟨⟨rfl⟩, ⟨rfl⟩⟩
 rw [Qc]
 simp -dsimp +contextual only [↓evA, eZ, Nat.reduceAdd, Nat.reduceMul, Nat.reduceBEq, Nat.reduceLeDiff, Nat.reduceLT, Tryz.func104, Tryz.f104, QPA, QAZ, Qij, Qmq]
 try simp only [QaZ, eY]
 all_goals rfl
theorem Qjd (a2 a3) {R1 a} [H1 : EncR QD R1 a] : CP T (n + 13) 26 [.agg R1, .i .i64 a2, .i .i64 a3] = (Qa1 a a2 a3).map fun r => .tup [.agg (VG r.1), .b r.2] := by
 obtain ⟨rfl⟩ := H1
 rw [Qc]
 simp -dsimp +contextual (maxSteps := 100000000) only [↓evA, eZ, Nat.reduceAdd, Nat.reduceMul, Nat.reduceBEq, Nat.reduceLeDiff, Nat.reduceLT, Tryz.func26, Tryz.f26, a26, n26, srt, V2, Qd0, Qbp, QgW, QjD, Qdh, Zb]
 try simp only [Qa1, eY]
 all_goals rfl
theorem QgE (a k i) {R1 l} [H1 : EncL Qg R1 l] : LP T (n + 1) 116 3 (frm [(0, .imm 5 R1), (1, .i .i64 a), (5, .i .i64 k), (6, .i .i64 i)]) [] =
  (run (Q8 l a) (k, i)).map (fun (zr : Int) => (XE.exit 0, frm [(0, .imm 5 (l.map Qg)), (5, .i .i64 zr)], [])) := by
 obtain ⟨rfl⟩ := H1
 rw [Qm]
 simp -dsimp only [↓evA, evB, Qf, Tryz.func116, Tryz.f116, QPo, QyB, TP, TZ, Nat.reduceAdd, Nat.reduceMul, Nat.reduceBEq, Nat.reduceLeDiff, Nat.reduceLT]
 apply QH k i
 intro k i
 simp -dsimp +contextual only [↓evA, eZ, Nat.reduceAdd, Nat.reduceMul, Nat.reduceBEq, Nat.reduceLeDiff, Nat.reduceLT]
 try simp only [Q8, eY]
 all_goals rfl
theorem QeK (a) {R1 l} [H1 : EncL Qg R1 l] : CP T (n + 2) 116 [.imm 5 R1, .i .i64 a] = (JR l a).map fun r => .i .i64 r := by
 obtain ⟨rfl⟩ := H1
 rw [Qc]
 simp -dsimp +contextual only [↓evA, eZ, Nat.reduceAdd, Nat.reduceMul, Nat.reduceBEq, Nat.reduceLeDiff, Nat.reduceLT, Tryz.func116, Tryz.f116, QPo, QyB, QgE]
 try simp only [JR, eY]
 all_goals rfl
theorem Qks (s i) {R1 o} [H1 : EncL QP R1 o] : LP T (n + 1) 206 6 (frm [(6, .sl 0), (7, .i .i64 s), (8, .i .i64 i)]) [some (Ent.lst 3 R1)] =
  (run (V3 s) (o, i)).map (fun (zr : (List Slot)) => (XE.exit 0, frm [(6, .sl 0)], [some (Ent.lst 3 (zr.map QP))])) := by
 obtain ⟨rfl⟩ := H1
 rw [Qm]
 simp -dsimp only [↓evA, evB, Qf, Tryz.func206, Tryz.f206, QLQ, Qxa, TP, TZ, Nat.reduceAdd, Nat.reduceMul, Nat.reduceBEq, Nat.reduceLeDiff, Nat.reduceLT]
 apply QH o i
 intro o i
 simp -dsimp +contextual only [↓evA, eZ, Nat.reduceAdd, Nat.reduceMul, Nat.reduceBEq, Nat.reduceLeDiff, Nat.reduceLT]
 try simp only [V3, eY]
 all_goals rfl
theorem Qni (a) {R1 l} [H1 : EncL QP R1 l] : CP T (n + 4) 206 [.imm 3 R1, .i .i64 a] = (Qdn l a).map fun r => .tup [.own 3 (r.1.map QP), .b r.2] := by
 obtain ⟨rfl⟩ := H1
 rw [Qc]
 simp -dsimp +contextual only [↓evA, eZ, Nat.reduceAdd, Nat.reduceMul, Nat.reduceBEq, Nat.reduceLeDiff, Nat.reduceLT, Tryz.func206, Tryz.f206, QLQ, Qxa, Qd8, Qew, Qks]
 try simp only [Qdn, eY]
 all_goals first | rfl | (simp +contextual only [evN] <;> rfl)
theorem Qfx (a2 a3 w) {R1 a} [H1 : EncR QD R1 a] : CP T (n + 9) 118 [.agg R1, .i .i64 a2, .i .i64 a3, .i .i64 w] = (ZB a a2 a3 w).map fun r => .tup [.agg (VG r.1), .b r.2] := by
 obtain ⟨rfl⟩ := H1
 rw [Qc]
 simp -dsimp +contextual (maxSteps := 100000000) only [↓evA, eZ, Nat.reduceAdd, Nat.reduceMul, Nat.reduceBEq, Nat.reduceLeDiff, Nat.reduceLT, Tryz.func118, Tryz.f118, QTC, QDO, V2, Qni, Qhu]
 try simp only [ZB, eY]
 all_goals rfl
theorem Ql5 (a a2) {R1 l} [H1 : EncL Qg R1 l] : CP T (n + 4) 119 [.imm 5 R1, .i .i64 a, .i .i64 a2] = (QcD l a a2).map fun r => .tup [.own 5 (r.1.map Qg), .b r.2] := by
 obtain ⟨rfl⟩ := H1
 rw [Qc]
 simp -dsimp +contextual only [↓evA, eZ, Nat.reduceAdd, Nat.reduceMul, Nat.reduceBEq, Nat.reduceLeDiff, Nat.reduceLT, Tryz.func119, Tryz.f119, QR0, QAI, Qd0, QdY]
 try simp only [QcD, eY]
 all_goals first | rfl | (simp +contextual only [evN] <;> rfl)
theorem Qpc (d) {R1 a} [H1 : EncR ZR R1 a] : CP T (n + 3) 121 [.agg R1, .i .i64 d] = (Qem a d).map fun r => .i .i64 r := by
 obtain ⟨rfl⟩ := H1
 rw [Qc]
 simp -dsimp +contextual only [↓evA, eZ, Nat.reduceAdd, Nat.reduceMul, Nat.reduceBEq, Nat.reduceLeDiff, Nat.reduceLT, Tryz.func121, Tryz.f121, QRy, Qz6, QeQ, Vr, QoA]
 try simp only [Qem, eY]
 all_goals rfl
theorem Qmy {R1 l R2 a} [H1 : EncL QX R1 l] [H2 : EncR QX R2 a] : CP T (n + 4) 207 [.imm 4 R1, .agg R2] = (Qbc l a).map fun r => .tup [.own 4 (r.1.map QX), .b r.2] := by
 rcases H1, H2 with ⟨⟨rfl⟩, ⟨rfl⟩⟩
 rw [Qc]
 simp -dsimp +contextual only [↓evA, eZ, Nat.reduceAdd, Nat.reduceMul, Nat.reduceBEq, Nat.reduceLeDiff, Nat.reduceLT, Tryz.func207, Tryz.f207, QRX, QCo, Qfp]
 try simp only [Qbc, eY]
 try simp only [List.contains_nil, Bool.not_false, Bool.and_true, VC, List.length_append, List.length_cons, List.length_nil, Nat.zero_add, Vz, VK]
 all_goals first | rfl | (simp +contextual only [evN] <;> rfl)
theorem Qio (axNo axNow f a2 c) {R1 axFinds R2 axSecrets R3 axSlots R4 axClaims R5 axTrials R6 axChain R7 axBook} [H1 : EncL Qv R1 axFinds] [H2 : EncL QG R2 axSecrets] [H3 : EncL QP R3 axSlots] [H4 : EncL Qg R4 axClaims] [H5 : EncL QJ R5 axTrials] [H6 : EncL Va R6 axChain] [H7 : EncL QX R7 axBook] : CM T (n + 5) 120 [some (Ent.lst 8 R1), some (Ent.lst 3 R2), some (Ent.lst 3 R3), some (Ent.lst 5 R4), some (Ent.lst 4 R5), some (Ent.lst 5 R6), some (Ent.lst 4 R7)] [.agg [.i .i64 axNo, .sl 0, .sl 1, .sl 2, .sl 3, .sl 4, .sl 5, .sl 6, .i .i64 axNow], .i .i64 f, .i .i64 a2, .i .i64 c] = (ZI (⟨axNo, axFinds, axSecrets, axSlots, axClaims, axTrials, axChain, axBook, axNow⟩ : House) f a2 c).map fun r => .tup [.agg (VG r.1), .b r.2] := by
 rcases H1, H2, H3, H4, H5, H6, H7 with ⟨⟨rfl⟩, ⟨rfl⟩, ⟨rfl⟩, ⟨rfl⟩, ⟨rfl⟩, ⟨rfl⟩, ⟨rfl⟩⟩
 rw [Qpr]
 simp -dsimp +contextual (maxSteps := 100000000) only [↓evA, eZ, Nat.reduceAdd, Nat.reduceMul, Nat.reduceBEq, Nat.reduceLeDiff, Nat.reduceLT, Tryz.func120, Tryz.f120, QRP, QAr, Qmy]
 try simp only [ZI, eY]
 all_goals rfl
theorem QlA (a2) {R1 a} [H1 : EncR QD R1 a] : CP T (n + 13) 30 [.agg R1, .i .i64 a2] = (Qbr a a2).map fun r => .tup [.agg (VG r.1), .b r.2] := by
 obtain ⟨rfl⟩ := H1
 rw [Qc]
 simp -dsimp +contextual (maxSteps := 100000000) only [↓evA, eZ, Nat.reduceAdd, Nat.reduceMul, Nat.reduceBEq, Nat.reduceLeDiff, Nat.reduceLT, Tryz.func30, Tryz.f30, a30, n30, srt, QeK, JW, Qbp, V2, Qd0, Qfx, Ql5, Qpc, Qio, Zb]
 try simp only [Qbr, eY]
 try simp only [List.contains_nil, Bool.not_false, Bool.and_true, VC, List.length_append, List.length_cons, List.length_nil, Nat.zero_add, Vz, VK]
 all_goals rfl
theorem Qky (i k) {R1 l} [H1 : EncL Vu R1 l] : LP T (n + 1) 222 7 (frm [(0, .imm 3 R1), (3, .i .i64 i), (4, .i .i64 k)]) [] =
  VU (run (Jr l i) k) (fun (zr : Bool) => (XE.ret, frm [(2, .b zr)], [])) (fun (zr : Unit) => (XE.exit 2, frm [(0, .imm 3 (l.map Vu)), (3, .i .i64 i)], [])) := by
 obtain ⟨rfl⟩ := H1
 rw [Qm]
 simp -dsimp only [↓evA, evB, Qf, Tryz.func222, Tryz.f222, a222, QvH, TP, TZ, Nat.reduceAdd, Nat.reduceMul, Nat.reduceBEq, Nat.reduceLeDiff, Nat.reduceLT]
 apply Ql k
 intro k
 simp -dsimp +contextual only [↓evA, eZ, Nat.reduceAdd, Nat.reduceMul, Nat.reduceBEq, Nat.reduceLeDiff, Nat.reduceLT]
 try simp only [Jr, eY]
 all_goals rfl
theorem QjS (i) {R1 l} [H1 : EncL Vu R1 l] : LP T (n + 2) 222 2 (frm [(0, .imm 3 R1), (3, .i .i64 i)]) [] =
  VU (run (Jt l) i) (fun (zr : Bool) => (XE.ret, frm [(2, .b zr)], [])) (fun (zr : Unit) => (XE.exit 0, frm [(0, .imm 3 (l.map Vu))], [])) := by
 obtain ⟨rfl⟩ := H1
 rw [Qm]
 simp -dsimp only [↓evA, evB, Qf, Tryz.func222, Tryz.f222, a222, QvH, TP, TZ, Nat.reduceAdd, Nat.reduceMul, Nat.reduceBEq, Nat.reduceLeDiff, Nat.reduceLT]
 apply Ql i
 intro i
 simp -dsimp +contextual only [↓evA, eZ, Nat.reduceAdd, Nat.reduceMul, Nat.reduceBEq, Nat.reduceLeDiff, Nat.reduceLT, Vr, Qky]
 try simp only [Jt, eY]
 all_goals rfl
theorem Qm4 {R1 l} [H1 : EncL Vu R1 l] : CP T (n + 3) 222 [.imm 3 R1] = (QeB l).map fun r => .b r := by
 obtain ⟨rfl⟩ := H1
 rw [Qc]
 simp -dsimp +contextual only [↓evA, eZ, Nat.reduceAdd, Nat.reduceMul, Nat.reduceBEq, Nat.reduceLeDiff, Nat.reduceLT, Tryz.func222, Tryz.f222, a222, QvH, QjS]
 try simp only [QeB, eY]
 all_goals rfl
theorem Qh4 (i k) {R1 l R2 o} [H1 : EncL Vu R1 l] [H2 : EncL Vu R2 o] : LP T (n + 1) 223 6 (frm [(0, .imm 3 R1), (3, .sl 0), (4, .i .i64 i), (5, .i .i64 k)]) [some (Ent.lst 3 R2)] =
  (run (Jm l o i) k).map (fun (zr : Int) => (XE.exit 2, frm [(0, .imm 3 (l.map Vu)), (3, .sl 0), (4, .i .i64 i), (5, .i .i64 zr)], [some (Ent.lst 3 (o.map Vu))])) := by
 rcases H1, H2 with ⟨⟨rfl⟩, ⟨rfl⟩⟩
 rw [Qm]
 simp -dsimp only [↓evA, evB, Qf, Tryz.func223, Tryz.f223, QGJ, QvY, TP, TZ, Nat.reduceAdd, Nat.reduceMul, Nat.reduceBEq, Nat.reduceLeDiff, Nat.reduceLT]
 apply Ql k
 intro k
 simp -dsimp +contextual only [↓evA, eZ, Nat.reduceAdd, Nat.reduceMul, Nat.reduceBEq, Nat.reduceLeDiff, Nat.reduceLT]
 try simp only [Jm, eY]
 try simp only [List.contains_nil, Bool.not_false, Bool.and_true, VC, List.length_append, List.length_cons, List.length_nil, Nat.zero_add, Vz, VK]
 all_goals rfl
theorem QhU (i) {R1 l R2 o} [H1 : EncL Vu R1 l] [H2 : EncL Vu R2 o] : LP T (n + 2) 223 3 (frm [(0, .imm 3 R1), (3, .sl 0), (4, .i .i64 i)]) [some (Ent.lst 3 R2)] =
  (run (Xp l) (o, i)).map (fun (zr : (List Bid)) => (XE.exit 0, frm [(3, .sl 0)], [some (Ent.lst 3 (zr.map Vu))])) := by
 rcases H1, H2 with ⟨⟨rfl⟩, ⟨rfl⟩⟩
 rw [Qm]
 simp -dsimp only [↓evA, evB, Qf, Tryz.func223, Tryz.f223, QGJ, QvY, TP, TZ, Nat.reduceAdd, Nat.reduceMul, Nat.reduceBEq, Nat.reduceLeDiff, Nat.reduceLT]
 apply QH o i
 intro o i
 simp -dsimp +contextual only [↓evA, eZ, Nat.reduceAdd, Nat.reduceMul, Nat.reduceBEq, Nat.reduceLeDiff, Nat.reduceLT, Qh4]
 try simp only [Xp, eY]
 try simp only [List.contains_nil, Bool.not_false, Bool.and_true, VC, List.length_append, List.length_cons, List.length_nil, Nat.zero_add, Vz, VK]
 all_goals rfl
theorem Qld {R1 l} [H1 : EncL Vu R1 l] : CP T (n + 3) 223 [.imm 3 R1] = (Qby l).map fun r => .own 3 (r.map Vu) := by
 obtain ⟨rfl⟩ := H1
 rw [Qc]
 simp -dsimp +contextual only [↓evA, eZ, Nat.reduceAdd, Nat.reduceMul, Nat.reduceBEq, Nat.reduceLeDiff, Nat.reduceLT, Tryz.func223, Tryz.f223, QGJ, QvY, QhU]
 try simp only [Qby, eY]
 try simp only [List.contains_nil, Bool.not_false, Bool.and_true, VC, List.length_append, List.length_cons, List.length_nil, Nat.zero_add, Vz, VK]
 all_goals first | rfl | (simp +contextual only [evN] <;> rfl)
theorem Qo2 {R1 l} [H1 : EncL Vu R1 l] : CP T (n + 4) 140 [.imm 3 R1] = (Qeo l).map fun r => .tup [.i .i64 r.1, .i .i64 r.2] := by
 obtain ⟨rfl⟩ := H1
 rw [Qc]
 simp -dsimp +contextual only [↓evA, eZ, Nat.reduceAdd, Nat.reduceMul, Nat.reduceBEq, Nat.reduceLeDiff, Nat.reduceLT, Tryz.func140, Tryz.f140, QSH, QAJ, Qm4, Qld]
 try simp only [Qeo, eY]
 all_goals rfl
theorem Qmv (k) : CP T (n + 2) 270 [.i .i64 k] = (Qd5 k).map fun r => .i .i64 r := by
 rw [Qc]
 simp -dsimp +contextual only [↓evA, eZ, Nat.reduceAdd, Nat.reduceMul, Nat.reduceBEq, Nat.reduceLeDiff, Nat.reduceLT, Tryz.func270, Tryz.f270, QRk, QBA, Vr]
 try simp only [Qd5, eY]
 all_goals rfl
theorem QoF {R1 f} [H1 : EncR Qv R1 f] : CP T (n + 4) 249 [.agg R1] = (QeG f).map fun r => .i .i64 r := by
 obtain ⟨rfl⟩ := H1
 rw [Qc]
 simp -dsimp +contextual only [↓evA, eZ, Nat.reduceAdd, Nat.reduceMul, Nat.reduceBEq, Nat.reduceLeDiff, Nat.reduceLT, Tryz.func249, Tryz.f249, QRQ, QCt, QfE, Qmv]
 try simp only [QeG, eY]
 all_goals rfl
theorem Qqw (a) {R1 f} [H1 : EncR Qv R1 f] : CP T (n + 5) 213 [.agg R1, .i .i64 a] = (QeR f a).map fun r => .b r := by
 obtain ⟨rfl⟩ := H1
 rw [Qc]
 simp -dsimp +contextual only [↓evA, eZ, Nat.reduceAdd, Nat.reduceMul, Nat.reduceBEq, Nat.reduceLeDiff, Nat.reduceLT, Tryz.func213, Tryz.f213, QQJ, QC6, QfE, QoF]
 try simp only [QeR, eY]
 all_goals rfl
theorem Qlp (a i) {R1 l R2 f} [H1 : EncL Qg R1 l] [H2 : EncR Qv R2 f] : LP T (n + 1) 127 4 (frm [(1, .imm 5 R1), (2, .i .i64 a), (3, .ptr 0 0 0), (7, .i .i64 i)]) [some (Ent.box R2)] =
  VU (run (Z2 l a f) i) (fun (zr : Int) => (XE.ret, frm [(6, .i .i64 zr)], [])) (fun (zr : Unit) => (XE.exit 0, frm [(2, .i .i64 a), (3, .ptr 0 0 0)], [some (Ent.box (Qv f))])) := by
 rcases H1, H2 with ⟨⟨rfl⟩, ⟨rfl⟩⟩
 rw [Qm]
 simp -dsimp only [↓evA, evB, Qf, Tryz.func127, Tryz.f127, QOU, QzM, TP, TZ, Nat.reduceAdd, Nat.reduceMul, Nat.reduceBEq, Nat.reduceLeDiff, Nat.reduceLT]
 apply Ql i
 intro i
 simp -dsimp +contextual only [↓evA, eZ, Nat.reduceAdd, Nat.reduceMul, Nat.reduceBEq, Nat.reduceLeDiff, Nat.reduceLT]
 try simp only [Z2, eY]
 all_goals rfl
theorem Qis (a) {R1 f R2 l} [H1 : EncR Qv R1 f] [H2 : EncL Qg R2 l] : CP T (n + 6) 127 [.agg R1, .imm 5 R2, .i .i64 a] = (Qc4 f l a).map fun r => .i .i64 r := by
 rcases H1, H2 with ⟨⟨rfl⟩, ⟨rfl⟩⟩
 rw [Qc]
 simp -dsimp +contextual only [↓evA, eZ, Nat.reduceAdd, Nat.reduceMul, Nat.reduceBEq, Nat.reduceLeDiff, Nat.reduceLT, Tryz.func127, Tryz.f127, QOU, QzM, QeK, Qqw, Qlp]
 try simp only [Qc4, eY]
 all_goals rfl
end Go.Proofs.YtcdffihcfeajfaaGreat
