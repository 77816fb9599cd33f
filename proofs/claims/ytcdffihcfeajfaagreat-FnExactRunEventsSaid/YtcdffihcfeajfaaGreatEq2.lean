import Derived.Test.YtcdffihcfeajfaaGreatEq1
namespace Go.Proofs.YtcdffihcfeajfaaGreat
open Go Go.Proofs Go.Proofs.YtcdffihcfeajfaaGreat.Am
set_option maxHeartbeats 4000000
set_option linter.unusedVariables false
set_option linter.unusedSimpArgs false
set_option linter.defProp false
set_option maxRecDepth 100000
variable (n : Nat)
theorem QkY (s i) {R1 a R2 o} [H1 : EncR ZX R1 a] [H2 : EncL QL R2 o] : LP T (n + 1) 131 6 (frm [(3, .ptr 0 0 0), (6, .sl 1), (7, .i .i64 s), (8, .i .i64 i)]) [some (Ent.box R1), some (Ent.lst 3 R2)] =
  (run (V5 a s) (o, i)).map (fun (zr : (List Slot)) => (XE.exit 0, frm [(6, .sl 0)], [some (Ent.lst 3 (zr.map QL))])) := by
 rcases H1, H2 with ⟨⟨rfl⟩, ⟨rfl⟩⟩
 rw [Qn]
 simp -dsimp only [↓evA, evB, Qf, Tryz.func131, Tryz.f131, a131, Qzi, TP, TZ, Nat.reduceAdd, Nat.reduceMul, Nat.reduceBEq, Nat.reduceLeDiff, Nat.reduceLT]
 apply QD o i
 intro o i
 simp -dsimp +contextual only [↓evA, eZ, Nat.reduceAdd, Nat.reduceMul, Nat.reduceBEq, Nat.reduceLeDiff, Nat.reduceLT]
 try simp only [V5, eY]
 all_goals rfl
theorem Qn2 {R1 l R2 a} [H1 : EncL QL R1 l] [H2 : EncR ZX R2 a] : CP T (n + 4) 131 [.imm 3 R1, .agg R2] = (QdN l a).map fun r => .tup [.own 3 (r.1.map QL), .b r.2] := by
 rcases H1, H2 with ⟨⟨rfl⟩, ⟨rfl⟩⟩
 rw [Qc]
 simp -dsimp +contextual only [↓evA, eZ, Nat.reduceAdd, Nat.reduceMul, Nat.reduceBEq, Nat.reduceLeDiff, Nat.reduceLT, Tryz.func131, Tryz.f131, a131, Qzi, Qis, QeG, Qe1, Qeh, QkY]
 try simp only [QdN, eY]
 all_goals first | rfl | (simp +contextual only [evN] <;> rfl)
theorem Qpj (a m) : CP T (n + 2) 267 [.i .i64 a, .i .i64 m] = (QdT a m).map fun r => .i .i64 r := by
 rw [Qc]
 simp -dsimp +contextual only [↓evA, eZ, Nat.reduceAdd, Nat.reduceMul, Nat.reduceBEq, Nat.reduceLeDiff, Nat.reduceLT, Tryz.func267, Tryz.f267, QSC, QCp, Vr]
 try simp only [QdT, eY]
 all_goals rfl
theorem Qow (d i) {R1 l} [H1 : EncL Vg R1 l] : LP T (n + 3) 251 3 (frm [(0, .imm 1 R1), (3, .i .i64 d), (4, .i .i64 i)]) [] =
  (run (V7 l) (d, i)).map (fun (zr : Int) => (XE.exit 0, frm [(3, .i .i64 zr)], [])) := by
 obtain ⟨rfl⟩ := H1
 rw [Qn]
 simp -dsimp only [↓evA, evB, Qf, Tryz.func251, Tryz.f251, QPv, QzX, TP, TZ, Nat.reduceAdd, Nat.reduceMul, Nat.reduceBEq, Nat.reduceLeDiff, Nat.reduceLT]
 apply QD d i
 intro d i
 simp -dsimp +contextual only [↓evA, eZ, Nat.reduceAdd, Nat.reduceMul, Nat.reduceBEq, Nat.reduceLeDiff, Nat.reduceLT, Qpj]
 try simp only [V7, eY]
 all_goals rfl
theorem Ql6 {R1 l} [H1 : EncL Vg R1 l] : CP T (n + 4) 251 [.imm 1 R1] = (Qan l).map fun r => .i .i64 r := by
 obtain ⟨rfl⟩ := H1
 rw [Qc]
 simp -dsimp +contextual only [↓evA, eZ, Nat.reduceAdd, Nat.reduceMul, Nat.reduceBEq, Nat.reduceLeDiff, Nat.reduceLT, Tryz.func251, Tryz.f251, QPv, QzX, Qow]
 try simp only [Qan, eY]
 all_goals rfl
theorem QgM (b) {R1 a} [H1 : EncR Q1 R1 a] : CP T (n + 5) 217 [.i .i64 b, .agg R1] = (JQ b a).map fun r => .i .i64 r := by
 obtain ⟨rfl⟩ := H1
 rw [Qc]
 simp -dsimp +contextual only [↓evA, eZ, Nat.reduceAdd, Nat.reduceMul, Nat.reduceBEq, Nat.reduceLeDiff, Nat.reduceLT, Tryz.func217, Tryz.f217, QQt, QD7, Ql6]
 try simp only [JQ, eY]
 all_goals rfl
theorem Qj3 (a b k i) {R1 l} [H1 : EncL Q1 R1 l] : LP T (n + 1) 230 3 (frm [(0, .imm 5 R1), (1, .i .i64 a), (2, .i .i64 b), (7, .i .i64 k), (8, .i .i64 i)]) [] =
  (run (Jw l a b) (k, i)).map (fun (zr : Int) => (XE.exit 0, frm [(7, .i .i64 zr)], [])) := by
 obtain ⟨rfl⟩ := H1
 rw [Qn]
 simp -dsimp only [↓evA, evB, Qf, Tryz.func230, Tryz.f230, QKk, Qya, TP, TZ, Nat.reduceAdd, Nat.reduceMul, Nat.reduceBEq, Nat.reduceLeDiff, Nat.reduceLT]
 apply QD k i
 intro k i
 simp -dsimp +contextual only [↓evA, eZ, Nat.reduceAdd, Nat.reduceMul, Nat.reduceBEq, Nat.reduceLeDiff, Nat.reduceLT]
 try simp only [Jw, eY]
 all_goals rfl
theorem Qhv (a b) {R1 l} [H1 : EncL Q1 R1 l] : CP T (n + 2) 230 [.imm 5 R1, .i .i64 a, .i .i64 b] = (Qci l a b).map fun r => .i .i64 r := by
 obtain ⟨rfl⟩ := H1
 rw [Qc]
 simp -dsimp +contextual only [↓evA, eZ, Nat.reduceAdd, Nat.reduceMul, Nat.reduceBEq, Nat.reduceLeDiff, Nat.reduceLT, Tryz.func230, Tryz.f230, QKk, Qya, Qj3]
 try simp only [Qci, eY]
 all_goals rfl
theorem Qkc (a a2) {R1 l} [H1 : EncL Q1 R1 l] : LP T (n + 6) 152 3 (frm [(0, .imm 5 R1), (3, .i .i64 a), (4, .i .i64 a2)]) [] =
  VR (run (QP l) (a, a2)) (fun (zr : Bool) => (XE.ret, frm [(2, .b zr)], [])) (fun (zr : Unit) => (XE.exit 0, frm [(0, .imm 5 (l.map Q1))], [])) := by
 obtain ⟨rfl⟩ := H1
 rw [Qn]
 simp -dsimp only [↓evA, evB, Qf, Tryz.func152, Tryz.f152, QIV, QxK, TP, TZ, Nat.reduceAdd, Nat.reduceMul, Nat.reduceBEq, Nat.reduceLeDiff, Nat.reduceLT]
 apply QD a a2
 intro a a2
 simp -dsimp +contextual only [↓evA, eZ, Nat.reduceAdd, Nat.reduceMul, Nat.reduceBEq, Nat.reduceLeDiff, Nat.reduceLT, QgM, Vr, Qhv]
 try simp only [QP, eY]
 all_goals rfl
theorem Qe7 {R1 l} [H1 : EncL Q1 R1 l] : CP T (n + 7) 152 [.imm 5 R1] = (VS l).map fun r => .b r := by
 obtain ⟨rfl⟩ := H1
 rw [Qc]
 simp -dsimp +contextual only [↓evA, eZ, Nat.reduceAdd, Nat.reduceMul, Nat.reduceBEq, Nat.reduceLeDiff, Nat.reduceLT, Tryz.func152, Tryz.f152, QIV, QxK, Qkc]
 try simp only [VS, eY]
 all_goals rfl
theorem Qhe {R1 l R2 a} [H1 : EncL Q1 R1 l] [H2 : EncR Q1 R2 a] : CP T (n + 8) 132 [.imm 5 R1, .agg R2] = (Qb5 l a).map fun r => .tup [.own 5 (r.1.map Q1), .b r.2] := by
 rcases H1, H2 with ⟨⟨rfl⟩, ⟨rfl⟩⟩
 rw [Qc]
 simp -dsimp +contextual only [↓evA, eZ, Nat.reduceAdd, Nat.reduceMul, Nat.reduceBEq, Nat.reduceLeDiff, Nat.reduceLT, Tryz.func132, Tryz.f132, QS4, QA5, QgM, Qe7]
 try simp only [Qb5, eY]
 try simp only [List.contains_nil, Bool.not_false, Bool.and_true, VF, List.length_append, List.length_cons, List.length_nil, Nat.zero_add, VC, VL]
 all_goals first | rfl | (simp +contextual only [evN] <;> rfl)
theorem Qim (a a3) {R1 l R2 a2} [H1 : EncL Qg R1 l] [H2 : EncR Qg R2 a2] : LP T (n + 1) 151 8 (frm [(0, .imm 5 R1), (3, .i .i64 a), (4, .ptr 0 0 0), (5, .i .i64 a3)]) [some (Ent.box R2)] =
  VR (run (Xn l a a2) a3) (fun (zr : Bool) => (XE.ret, frm [(2, .b zr)], [])) (fun (zr : Unit) => (XE.exit 2, frm [(0, .imm 5 (l.map Qg)), (3, .i .i64 a)], [])) := by
 rcases H1, H2 with ⟨⟨rfl⟩, ⟨rfl⟩⟩
 rw [Qn]
 simp -dsimp only [↓evA, evB, Qf, Tryz.func151, Tryz.f151, QGe, QvA, TP, TZ, Nat.reduceAdd, Nat.reduceMul, Nat.reduceBEq, Nat.reduceLeDiff, Nat.reduceLT]
 apply Ql a3
 intro a3
 simp -dsimp +contextual only [↓evA, eZ, Nat.reduceAdd, Nat.reduceMul, Nat.reduceBEq, Nat.reduceLeDiff, Nat.reduceLT]
 try simp only [Xn, eY]
 all_goals rfl
theorem Qh5 (a) {R1 l} [H1 : EncL Qg R1 l] : LP T (n + 2) 151 2 (frm [(0, .imm 5 R1), (3, .i .i64 a)]) [] =
  VR (run (Vh l) a) (fun (zr : Bool) => (XE.ret, frm [(2, .b zr)], [])) (fun (zr : Unit) => (XE.exit 0, frm [(0, .imm 5 (l.map Qg))], [])) := by
 obtain ⟨rfl⟩ := H1
 rw [Qn]
 simp -dsimp only [↓evA, evB, Qf, Tryz.func151, Tryz.f151, QGe, QvA, TP, TZ, Nat.reduceAdd, Nat.reduceMul, Nat.reduceBEq, Nat.reduceLeDiff, Nat.reduceLT]
 apply Ql a
 intro a
 simp -dsimp +contextual only [↓evA, eZ, Nat.reduceAdd, Nat.reduceMul, Nat.reduceBEq, Nat.reduceLeDiff, Nat.reduceLT, Vr, Qim]
 try simp only [Vh, eY]
 all_goals rfl
theorem Qea {R1 l} [H1 : EncL Qg R1 l] : CP T (n + 3) 151 [.imm 5 R1] = (Vd l).map fun r => .b r := by
 obtain ⟨rfl⟩ := H1
 rw [Qc]
 simp -dsimp +contextual only [↓evA, eZ, Nat.reduceAdd, Nat.reduceMul, Nat.reduceBEq, Nat.reduceLeDiff, Nat.reduceLT, Tryz.func151, Tryz.f151, QGe, QvA, Qh5]
 try simp only [Vd, eY]
 all_goals rfl
theorem QhJ (i) {R1 l} [H1 : EncL QK R1 l] : LP T (n + 2) 153 2 (frm [(0, .imm 4 R1), (3, .i .i64 i)]) [] =
  VR (run (Xc l) i) (fun (zr : Bool) => (XE.ret, frm [(2, .b zr)], [])) (fun (zr : Unit) => (XE.exit 0, frm [(0, .imm 4 (l.map QK))], [])) := by
 obtain ⟨rfl⟩ := H1
 rw [Qn]
 simp -dsimp only [↓evA, evB, Qf, Tryz.func153, Tryz.f153, QMV, Qyy, TP, TZ, Nat.reduceAdd, Nat.reduceMul, Nat.reduceBEq, Nat.reduceLeDiff, Nat.reduceLT]
 apply Ql i
 intro i
 simp -dsimp +contextual only [↓evA, eZ, Nat.reduceAdd, Nat.reduceMul, Nat.reduceBEq, Nat.reduceLeDiff, Nat.reduceLT, Vr]
 try simp only [Xc, eY]
 all_goals rfl
theorem Qfl {R1 l} [H1 : EncL QK R1 l] : CP T (n + 3) 153 [.imm 4 R1] = (JC l).map fun r => .b r := by
 obtain ⟨rfl⟩ := H1
 rw [Qc]
 simp -dsimp +contextual only [↓evA, eZ, Nat.reduceAdd, Nat.reduceMul, Nat.reduceBEq, Nat.reduceLeDiff, Nat.reduceLT, Tryz.func153, Tryz.f153, QMV, Qyy, QhJ]
 try simp only [JC, eY]
 all_goals rfl
theorem QmE (a k) {R1 l} [H1 : EncL Vg R1 l] : LP T (n + 1) 264 2 (frm [(0, .imm 1 R1), (1, .i .i64 a), (5, .i .i64 k)]) [] =
  (run (JS l a) k).map (fun (zr : Int) => (XE.exit 0, frm [(0, .imm 1 (l.map Vg)), (1, .i .i64 a), (5, .i .i64 zr)], [])) := by
 obtain ⟨rfl⟩ := H1
 rw [Qn]
 simp -dsimp only [↓evA, evB, Qf, Tryz.func264, Tryz.f264, QO0, QzH, TP, TZ, Nat.reduceAdd, Nat.reduceMul, Nat.reduceBEq, Nat.reduceLeDiff, Nat.reduceLT]
 apply Ql k
 intro k
 simp -dsimp +contextual only [↓evA, eZ, Nat.reduceAdd, Nat.reduceMul, Nat.reduceBEq, Nat.reduceLeDiff, Nat.reduceLT]
 try simp only [JS, eY]
 try simp only [List.contains_nil, Bool.not_false, Bool.and_true, VF, List.length_append, List.length_cons, List.length_nil, Nat.zero_add, VC, VL]
 all_goals rfl
theorem QqK (a) {R1 l} [H1 : EncL Vg R1 l] : CP T (n + 2) 264 [.imm 1 R1, .i .i64 a] = (Qc8 l a).map fun r => .own 1 (r.map Vg) := by
 obtain ⟨rfl⟩ := H1
 rw [Qc]
 simp -dsimp +contextual only [↓evA, eZ, Nat.reduceAdd, Nat.reduceMul, Nat.reduceBEq, Nat.reduceLeDiff, Nat.reduceLT, Tryz.func264, Tryz.f264, QO0, QzH, QmE]
 try simp only [Qc8, eY]
 try simp only [List.contains_nil, Bool.not_false, Bool.and_true, VF, List.length_append, List.length_cons, List.length_nil, Nat.zero_add, VC, VL]
 all_goals first | rfl | (simp +contextual only [evN] <;> rfl)
theorem Qko (a i) {R1 l R2 o} [H1 : EncL Q1 R1 l] [H2 : EncL Vg R2 o] : LP T (n + 8) 231 3 (frm [(0, .imm 5 R1), (1, .i .i64 a), (5, .sl 0), (6, .i .i64 i)]) [some (Ent.lst 1 R2)] =
  (run (Zx l a) (o, i)).map (fun (zr : (List Int)) => (XE.exit 0, frm [(5, .sl 0)], [some (Ent.lst 1 (zr.map Vg))])) := by
 rcases H1, H2 with ⟨⟨rfl⟩, ⟨rfl⟩⟩
 rw [Qn]
 simp -dsimp only [↓evA, evB, Qf, Tryz.func231, Tryz.f231, QOp, QxS, TP, TZ, Nat.reduceAdd, Nat.reduceMul, Nat.reduceBEq, Nat.reduceLeDiff, Nat.reduceLT]
 apply QD o i
 intro o i
 simp -dsimp +contextual only [↓evA, eZ, Nat.reduceAdd, Nat.reduceMul, Nat.reduceBEq, Nat.reduceLeDiff, Nat.reduceLT, Qe7, Qhv, QqK]
 try simp only [Zx, eY]
 all_goals rfl
theorem QoJ (a) {R1 l} [H1 : EncL Q1 R1 l] : CP T (n + 9) 231 [.imm 5 R1, .i .i64 a] = (QdW l a).map fun r => .own 1 (r.map Vg) := by
 obtain ⟨rfl⟩ := H1
 rw [Qc]
 simp -dsimp +contextual only [↓evA, eZ, Nat.reduceAdd, Nat.reduceMul, Nat.reduceBEq, Nat.reduceLeDiff, Nat.reduceLT, Tryz.func231, Tryz.f231, QOp, QxS, Qko]
 try simp only [QdW, eY]
 all_goals first | rfl | (simp +contextual only [evN] <;> rfl)
theorem Qh9 (i i2) {R1 l} [H1 : EncL Qv R1 l] : LP T (n + 1) 117 2 (frm [(0, .imm 8 R1), (1, .i .i64 i), (5, .i .i64 i2)]) [] =
  VR (run (Jp l i) i2) (fun (zr : Int) => (XE.ret, frm [(4, .i .i64 zr)], [])) (fun (zr : Unit) => (XE.exit 0, frm [], [])) := by
 obtain ⟨rfl⟩ := H1
 rw [Qn]
 simp -dsimp only [↓evA, evB, Qf, Tryz.func117, Tryz.f117, QH4, Qw5, TP, TZ, Nat.reduceAdd, Nat.reduceMul, Nat.reduceBEq, Nat.reduceLeDiff, Nat.reduceLT]
 apply Ql i2
 intro i2
 simp -dsimp +contextual only [↓evA, eZ, Nat.reduceAdd, Nat.reduceMul, Nat.reduceBEq, Nat.reduceLeDiff, Nat.reduceLT]
 try simp only [Jp, eY]
 all_goals rfl
theorem Zb (i) {R1 l} [H1 : EncL Qv R1 l] : CP T (n + 2) 117 [.imm 8 R1, .i .i64 i] = (V1 l i).map fun r => .i .i64 r := by
 obtain ⟨rfl⟩ := H1
 rw [Qc]
 simp -dsimp +contextual only [↓evA, eZ, Nat.reduceAdd, Nat.reduceMul, Nat.reduceBEq, Nat.reduceLeDiff, Nat.reduceLT, Tryz.func117, Tryz.f117, QH4, Qw5, Qh9]
 try simp only [V1, eY]
 all_goals rfl
theorem QmZ (a i) {R1 l} [H1 : EncL Vg R1 l] : LP T (n + 1) 232 2 (frm [(0, .imm 1 R1), (1, .i .i64 a), (5, .i .i64 i)]) [] =
  VR (run (Qbj l a) i) (fun (zr : Bool) => (XE.ret, frm [(4, .b zr)], [])) (fun (zr : Unit) => (XE.exit 0, frm [], [])) := by
 obtain ⟨rfl⟩ := H1
 rw [Qn]
 simp -dsimp only [↓evA, evB, Qf, Tryz.func232, Tryz.f232, QIq, Qyd, TP, TZ, Nat.reduceAdd, Nat.reduceMul, Nat.reduceBEq, Nat.reduceLeDiff, Nat.reduceLT]
 apply Ql i
 intro i
 simp -dsimp +contextual only [↓evA, eZ, Nat.reduceAdd, Nat.reduceMul, Nat.reduceBEq, Nat.reduceLeDiff, Nat.reduceLT]
 try simp only [Qbj, eY]
 all_goals rfl
theorem Qq1 (a) {R1 l} [H1 : EncL Vg R1 l] : CP T (n + 2) 232 [.imm 1 R1, .i .i64 a] = (Qe6 l a).map fun r => .b r := by
 obtain ⟨rfl⟩ := H1
 rw [Qc]
 simp -dsimp +contextual only [↓evA, eZ, Nat.reduceAdd, Nat.reduceMul, Nat.reduceBEq, Nat.reduceLeDiff, Nat.reduceLT, Tryz.func232, Tryz.f232, QIq, Qyd, QmZ]
 try simp only [Qe6, eY]
 all_goals rfl
theorem Qil (a3) {R1 a R2 a2} [H1 : EncR QC R1 a] [H2 : EncL Vg R2 a2] : LP T (n + 3) 154 5 (frm [(1, .ptr 0 0 0), (3, .sl 1), (4, .i .i64 a3)]) [some (Ent.box R1), some (Ent.lst 1 R2)] =
  VR (run (Jn a a2) a3) (fun (zr : Bool) => (XE.ret, frm [(2, .b zr)], [])) (fun (zr : Unit) => (XE.exit 0, frm [(1, .ptr 0 0 0), (3, .sl 1)], [some (Ent.box (QC a)), some (Ent.lst 1 (a2.map Vg))])) := by
 rcases H1, H2 with ⟨⟨rfl⟩, ⟨rfl⟩⟩
 rw [Qn]
 simp -dsimp only [↓evA, evB, Qf, Tryz.func154, Tryz.f154, QAV, Qt1, TP, TZ, Nat.reduceAdd, Nat.reduceMul, Nat.reduceBEq, Nat.reduceLeDiff, Nat.reduceLT]
 apply Ql a3
 intro a3
 simp -dsimp +contextual (maxSteps := 100000000) only [↓evA, eZ, Nat.reduceAdd, Nat.reduceMul, Nat.reduceBEq, Nat.reduceLeDiff, Nat.reduceLT, Zb]
 try simp only [Jn, eY]
 all_goals rfl
theorem Qg0 (a3) {R1 a R2 a2} [H1 : EncR QC R1 a] [H2 : EncL Vg R2 a2] : LP T (n + 3) 154 10 (frm [(1, .ptr 0 0 0), (3, .sl 1), (5, .i .i64 a3)]) [some (Ent.box R1), some (Ent.lst 1 R2)] =
  VR (run (XF a a2) a3) (fun (zr : Bool) => (XE.ret, frm [(2, .b zr)], [])) (fun (zr : Unit) => (XE.exit 2, frm [(1, .ptr 0 0 0)], [some (Ent.box (QC a))])) := by
 rcases H1, H2 with ⟨⟨rfl⟩, ⟨rfl⟩⟩
 rw [Qn]
 simp -dsimp only [↓evA, evB, Qf, Tryz.func154, Tryz.f154, QAV, Qt1, TP, TZ, Nat.reduceAdd, Nat.reduceMul, Nat.reduceBEq, Nat.reduceLeDiff, Nat.reduceLT]
 apply Ql a3
 intro a3
 simp -dsimp +contextual (maxSteps := 100000000) only [↓evA, eZ, Nat.reduceAdd, Nat.reduceMul, Nat.reduceBEq, Nat.reduceLeDiff, Nat.reduceLT, Qeh, Qq1]
 try simp only [XF, eY]
 all_goals rfl
theorem Qhz (a2) {R1 a} [H1 : EncR QC R1 a] : LP T (n + 3) 154 16 (frm [(1, .ptr 0 0 0), (7, .i .i64 a2)]) [some (Ent.box R1)] =
  VR (run (XX a) a2) (fun (zr : Bool) => (XE.ret, frm [(2, .b zr)], [])) (fun (zr : Unit) => (XE.exit 4, frm [], [])) := by
 obtain ⟨rfl⟩ := H1
 rw [Qn]
 simp -dsimp only [↓evA, evB, Qf, Tryz.func154, Tryz.f154, QAV, Qt1, TP, TZ, Nat.reduceAdd, Nat.reduceMul, Nat.reduceBEq, Nat.reduceLeDiff, Nat.reduceLT]
 apply Ql a2
 intro a2
 simp -dsimp +contextual (maxSteps := 100000000) only [↓evA, eZ, Nat.reduceAdd, Nat.reduceMul, Nat.reduceBEq, Nat.reduceLeDiff, Nat.reduceLT, Zb]
 try simp only [XX, eY]
 all_goals rfl
theorem QlA {R1 a} [H1 : EncR QC R1 a] : CP T (n + 10) 154 [.agg R1] = (Qag a).map fun r => .b r := by
 obtain ⟨rfl⟩ := H1
 rw [Qc]
 simp -dsimp +contextual (maxSteps := 100000000) only [↓evA, eZ, Nat.reduceAdd, Nat.reduceMul, Nat.reduceBEq, Nat.reduceLeDiff, Nat.reduceLT, Tryz.func154, Tryz.f154, QAV, Qt1, QoJ, Qil, Qg0, Qhz]
 try simp only [Qag, eY]
 all_goals rfl
theorem QhH {R1 a} [H1 : EncR QA R1 a] : CP T (n + 2) 187 [.agg R1] = (QaG a).map fun r => .b r := by
 obtain ⟨rfl⟩ := H1
 rw [Qc]
 simp -dsimp +contextual only [↓evA, eZ, Nat.reduceAdd, Nat.reduceMul, Nat.reduceBEq, Nat.reduceLeDiff, Nat.reduceLT, Tryz.func187, Tryz.f187, QUl, QBG, Vr]
 try simp only [QaG, eY]
 all_goals rfl
theorem QkQ (a i) {R1 l} [H1 : EncL QH R1 l] : LP T (n + 1) 184 2 (frm [(0, .imm 3 R1), (1, .i .i64 a), (5, .i .i64 i)]) [] =
  VR (run (Zq l a) i) (fun (zr : Int) => (XE.ret, frm [(4, .i .i64 zr)], [])) (fun (zr : Unit) => (XE.exit 0, frm [], [])) := by
 obtain ⟨rfl⟩ := H1
 rw [Qn]
 simp -dsimp only [↓evA, evB, Qf, Tryz.func184, Tryz.f184, QKH, QxZ, TP, TZ, Nat.reduceAdd, Nat.reduceMul, Nat.reduceBEq, Nat.reduceLeDiff, Nat.reduceLT]
 apply Ql i
 intro i
 simp -dsimp +contextual only [↓evA, eZ, Nat.reduceAdd, Nat.reduceMul, Nat.reduceBEq, Nat.reduceLeDiff, Nat.reduceLT]
 try simp only [Zq, eY]
 all_goals rfl
theorem QnZ (a) {R1 l} [H1 : EncL QH R1 l] : CP T (n + 2) 184 [.imm 3 R1, .i .i64 a] = (QeP l a).map fun r => .i .i64 r := by
 obtain ⟨rfl⟩ := H1
 rw [Qc]
 simp -dsimp +contextual only [↓evA, eZ, Nat.reduceAdd, Nat.reduceMul, Nat.reduceBEq, Nat.reduceLeDiff, Nat.reduceLT, Tryz.func184, Tryz.f184, QKH, QxZ, QkQ]
 try simp only [QeP, eY]
 all_goals rfl
theorem Qhc (a) {R1 l} [H1 : EncL QH R1 l] : CP T (n + 3) 103 [.imm 3 R1, .i .i64 a] = (Qb1 l a).map fun r => .own 2 (r.map Vf) := by
 obtain ⟨rfl⟩ := H1
 rw [Qc]
 simp -dsimp +contextual only [↓evA, eZ, Nat.reduceAdd, Nat.reduceMul, Nat.reduceBEq, Nat.reduceLeDiff, Nat.reduceLT, Tryz.func103, Tryz.f103, QQo, QAp, QnZ]
 try simp only [Qb1, eY]
 all_goals first | rfl | (simp +contextual only [evN] <;> rfl)
theorem QoG (a b) : CP T (n + 1) 209 [.i .i64 a, .i .i64 b] = (Qf3 a b).map fun r => .i .i64 r := by
 rw [Qc]
 simp -dsimp +contextual only [↓evA, eZ, Nat.reduceAdd, Nat.reduceMul, Nat.reduceBEq, Nat.reduceLeDiff, Nat.reduceLT, Tryz.func209, Tryz.f209, QSU, QDS]
 try simp only [Qf3, eY]
 all_goals rfl
theorem QnL {R1 l} [H1 : EncL Vf R1 l] : CP T (n + 2) 189 [.imm 2 R1] = (QdR l).map fun r => .i .i64 r := by
 obtain ⟨rfl⟩ := H1
 rw [Qc]
 simp -dsimp +contextual only [↓evA, eZ, Nat.reduceAdd, Nat.reduceMul, Nat.reduceBEq, Nat.reduceLeDiff, Nat.reduceLT, Tryz.func189, Tryz.f189, QSp, n189, QoG]
 try simp only [QdR, eY]
 all_goals rfl
theorem QdU {R1 l R2 a} [H1 : EncL Vf R1 l] [H2 : EncR QA R2 a] : CP T (n + 4) 105 [.imm 2 R1, .agg R2] = (Jy l a).map fun r => .i .i64 r := by
 rcases H1, H2 with ⟨⟨rfl⟩, ⟨rfl⟩⟩
 rw [Qc]
 simp -dsimp +contextual only [↓evA, eZ, Nat.reduceAdd, Nat.reduceMul, Nat.reduceBEq, Nat.reduceLeDiff, Nat.reduceLT, Tryz.func105, Tryz.f105, QRc, QCy, QhH, QeJ, QnL]
 try simp only [Jy, eY]
 all_goals rfl
theorem Qih (a2) {R1 a} [H1 : EncR QC R1 a] : LP T (n + 5) 155 4 (frm [(1, .ptr 0 0 0), (3, .i .i64 a2)]) [some (Ent.box R1)] =
  VR (run (Jc a) a2) (fun (zr : Bool) => (XE.ret, frm [(2, .b zr)], [])) (fun (zr : Unit) => (XE.exit 0, frm [], [])) := by
 obtain ⟨rfl⟩ := H1
 rw [Qn]
 simp -dsimp only [↓evA, evB, Qf, Tryz.func155, Tryz.f155, QIE, Qzl, TP, TZ, Nat.reduceAdd, Nat.reduceMul, Nat.reduceBEq, Nat.reduceLeDiff, Nat.reduceLT]
 apply Ql a2
 intro a2
 simp -dsimp +contextual (maxSteps := 100000000) only [↓evA, eZ, Nat.reduceAdd, Nat.reduceMul, Nat.reduceBEq, Nat.reduceLeDiff, Nat.reduceLT, Zb, QhH, Qhc, QdU]
 try simp only [Jc, eY]
 all_goals rfl
theorem QlU {R1 a} [H1 : EncR QC R1 a] : CP T (n + 6) 155 [.agg R1] = (Qaf a).map fun r => .b r := by
 obtain ⟨rfl⟩ := H1
 rw [Qc]
 simp -dsimp +contextual (maxSteps := 100000000) only [↓evA, eZ, Nat.reduceAdd, Nat.reduceMul, Nat.reduceBEq, Nat.reduceLeDiff, Nat.reduceLT, Tryz.func155, Tryz.f155, QIE, Qzl, Qih]
 try simp only [Qaf, eY]
 all_goals rfl
theorem QbV {R1 a} [H1 : EncR QC R1 a] : CP T (n + 11) 60 [.agg R1] = (Xl a).map fun r => .b r := by
 obtain ⟨rfl⟩ := H1
 rw [Qc]
 simp -dsimp +contextual (maxSteps := 100000000) only [↓evA, eZ, Nat.reduceAdd, Nat.reduceMul, Nat.reduceBEq, Nat.reduceLeDiff, Nat.reduceLT, Tryz.func60, Tryz.f60, a60, n60, Vr, QgE, Qfk, QeG, Qea, Qe7, Qfl, QlA, QlU]
 try simp only [Xl, eY]
 all_goals rfl
theorem Zi (oxNo oxNow o2) {R1 a R2 oxFinds R3 oxSecrets R4 oxSlots R5 oxClaims R6 oxTrials R7 oxChain R8 oxBook} [H1 : EncR QC R1 a] [H2 : EncL Qv R2 oxFinds] [H3 : EncL Qw R3 oxSecrets] [H4 : EncL QL R4 oxSlots] [H5 : EncL Qg R5 oxClaims] [H6 : EncL QA R6 oxTrials] [H7 : EncL Q1 R7 oxChain] [H8 : EncL QK R8 oxBook] : CM T (n + 12) 92 [some (Ent.lst 8 R2), some (Ent.lst 3 R3), some (Ent.lst 3 R4), some (Ent.lst 5 R5), some (Ent.lst 4 R6), some (Ent.lst 5 R7), some (Ent.lst 4 R8)] [.agg R1, .agg [.i .i64 oxNo, .sl 0, .sl 1, .sl 2, .sl 3, .sl 4, .sl 5, .sl 6, .i .i64 oxNow], .b o2] = (Qq a (⟨oxNo, oxFinds, oxSecrets, oxSlots, oxClaims, oxTrials, oxChain, oxBook, oxNow⟩ : House) o2).map fun r => .tup [.agg (Vz r.1), .b r.2] := by
 rcases H1, H2, H3, H4, H5, H6, H7, H8 with ⟨⟨rfl⟩, ⟨rfl⟩, ⟨rfl⟩, ⟨rfl⟩, ⟨rfl⟩, ⟨rfl⟩, ⟨rfl⟩, ⟨rfl⟩⟩
 rw [Qqc]
 simp -dsimp +contextual (maxSteps := 100000000) only [↓evA, eZ, Nat.reduceAdd, Nat.reduceMul, Nat.reduceBEq, Nat.reduceLeDiff, Nat.reduceLT, Tryz.func92, Tryz.f92, a92, n92, QbV, VM]
 try simp only [Qq, eY]
 all_goals rfl
theorem Qmp (a4) {R1 a R2 a2 R3 a3} [H1 : EncR QC R1 a] [H2 : EncR Qv R2 a2] [H3 : EncL Vf R3 a3] : CP T (n + 13) 35 [.agg R1, .agg R2, .imm 2 R3, .i .i64 a4] = (QcN a a2 a3 a4).map fun r => .tup [.agg (Vz r.1), .b r.2] := by
 rcases H1, H2, H3 with ⟨⟨rfl⟩, ⟨rfl⟩, ⟨rfl⟩⟩
 rw [Qc]
 simp -dsimp +contextual (maxSteps := 100000000) only [↓evA, eZ, Nat.reduceAdd, Nat.reduceMul, Nat.reduceBEq, Nat.reduceLeDiff, Nat.reduceLT, Tryz.func35, Tryz.f35, a35, n35, srt, VM, Qo3, Ql1, Qn2, Qhe, Zi]
 try simp only [QcN, eY]
 all_goals rfl
theorem Qi5 (a2 a3 a4) {R1 l R2 a} [H1 : EncL Qg R1 l] [H2 : EncR Qg R2 a] : LP T (n + 1) 111 4 (frm [(0, .imm 5 R1), (3, .ptr 0 0 0), (6, .i .i64 a2), (7, .b a3), (8, .i .i64 a4)]) [some (Ent.box R2)] =
  (run (XO l a) (a2, a3, a4)).map (fun (zr : Int × Bool) => (XE.exit 0, frm [(0, .imm 5 (l.map Qg)), (3, .ptr 0 0 0), (6, .i .i64 zr.1), (7, .b zr.2)], [some (Ent.box (Qg a))])) := by
 rcases H1, H2 with ⟨⟨rfl⟩, ⟨rfl⟩⟩
 rw [Qn]
 simp -dsimp only [↓evA, evB, Qf, Tryz.func111, Tryz.f111, QKK, QAe, TP, TZ, Nat.reduceAdd, Nat.reduceMul, Nat.reduceBEq, Nat.reduceLeDiff, Nat.reduceLT]
 apply JG a2 a3 a4
 intro a2 a3 a4
 simp -dsimp +contextual only [↓evA, eZ, Nat.reduceAdd, Nat.reduceMul, Nat.reduceBEq, Nat.reduceLeDiff, Nat.reduceLT]
 try simp only [XO, eY]
 try simp only [List.contains_nil, Bool.not_false, Bool.and_true, VF, List.length_append, List.length_cons, List.length_nil, Nat.zero_add, VC, VL]
 all_goals rfl
theorem Qm0 {R1 l R2 a} [H1 : EncL Qg R1 l] [H2 : EncR Qg R2 a] : CP T (n + 4) 111 [.imm 5 R1, .agg R2] = (Qbp l a).map fun r => .tup [.own 5 (r.1.map Qg), .b r.2] := by
 rcases H1, H2 with ⟨⟨rfl⟩, ⟨rfl⟩⟩
 rw [Qc]
 simp -dsimp +contextual only [↓evA, eZ, Nat.reduceAdd, Nat.reduceMul, Nat.reduceBEq, Nat.reduceLeDiff, Nat.reduceLT, Tryz.func111, Tryz.f111, QKK, QAe, Qea, Qi5]
 try simp only [Qbp, eY]
 try simp only [List.contains_nil, Bool.not_false, Bool.and_true, VF, List.length_append, List.length_cons, List.length_nil, Nat.zero_add, VC, VL]
 all_goals first | rfl | (simp +contextual only [evN] <;> rfl)
theorem QiC (a a2 a4xNo a4xNow a5 a6) {R1 a3 R2 a4xFinds R3 a4xSecrets R4 a4xSlots R5 a4xClaims R6 a4xTrials R7 a4xChain R8 a4xBook} [H1 : EncR QC R1 a3] [H2 : EncL Qv R2 a4xFinds] [H3 : EncL Qw R3 a4xSecrets] [H4 : EncL QL R4 a4xSlots] [H5 : EncL Qg R5 a4xClaims] [H6 : EncL QA R6 a4xTrials] [H7 : EncL Q1 R7 a4xChain] [H8 : EncL QK R8 a4xBook] : LP T (n + 1) 28 5 (frm [(1, .i .i64 a), (3, .i .i64 a2), (4, .ptr 0 0 0), (8, .ptr 1 0 0), (10, .ptr 2 0 0), (12, .b a5), (13, .i .i64 a6)]) [some (Ent.box R1), some (Ent.box [.i .i64 0, .nil, .nil, .nil, .nil, .nil, .nil, .nil, .i .i64 0]), some (Ent.box [.i .i64 a4xNo, .sl 3, .sl 4, .sl 5, .sl 6, .sl 7, .sl 8, .sl 9, .i .i64 a4xNow]), some (Ent.lst 8 R2), some (Ent.lst 3 R3), some (Ent.lst 3 R4), some (Ent.lst 5 R5), some (Ent.lst 4 R6), some (Ent.lst 5 R7), some (Ent.lst 4 R8)] =
  (run (Ji a a2 a3 (⟨a4xNo, a4xFinds, a4xSecrets, a4xSlots, a4xClaims, a4xTrials, a4xChain, a4xBook, a4xNow⟩ : House) a5) a6).map (fun (zr : Int) => (XE.exit 0, frm [(1, .i .i64 a), (3, .i .i64 a2), (4, .ptr 0 0 0), (8, .ptr 1 0 0), (10, .ptr 2 0 0), (12, .b a5), (13, .i .i64 zr)], [some (Ent.box (QC a3)), some (Ent.box [.i .i64 0, .nil, .nil, .nil, .nil, .nil, .nil, .nil, .i .i64 0]), some (Ent.box [.i .i64 a4xNo, .sl 3, .sl 4, .sl 5, .sl 6, .sl 7, .sl 8, .sl 9, .i .i64 a4xNow]), some (Ent.lst 8 (a4xFinds.map Qv)), some (Ent.lst 3 (a4xSecrets.map Qw)), some (Ent.lst 3 (a4xSlots.map QL)), some (Ent.lst 5 (a4xClaims.map Qg)), some (Ent.lst 4 (a4xTrials.map QA)), some (Ent.lst 5 (a4xChain.map Q1)), some (Ent.lst 4 (a4xBook.map QK))])) := by
 rcases H1, H2, H3, H4, H5, H6, H7, H8 with ⟨⟨rfl⟩, ⟨rfl⟩, ⟨rfl⟩, ⟨rfl⟩, ⟨rfl⟩, ⟨rfl⟩, ⟨rfl⟩, ⟨rfl⟩⟩
 rw [Qn]
 simp -dsimp only [↓evA, evB, Qf, Tryz.func28, Tryz.f28, a28, n28, TP, TZ, Nat.reduceAdd, Nat.reduceMul, Nat.reduceBEq, Nat.reduceLeDiff, Nat.reduceLT]
 apply Ql a6
 intro a6
 simp -dsimp +contextual (maxSteps := 100000000) only [↓evA, eZ, Nat.reduceAdd, Nat.reduceMul, Nat.reduceBEq, Nat.reduceLeDiff, Nat.reduceLT, srt]
 try simp only [Ji, eY]
 try simp only [List.contains_nil, Bool.not_false, Bool.and_true, VF, List.length_append, List.length_cons, List.length_nil, Nat.zero_add, VC, VL]
 all_goals rfl
theorem Qlj (a2 a3 a4) {R1 a} [H1 : EncR QC R1 a] : CP T (n + 13) 28 [.agg R1, .i .i64 a2, .i .i64 a3, .i .i64 a4] = (Qaj a a2 a3 a4).map fun r => .tup [.agg (Vz r.1), .b r.2] := by
 obtain ⟨rfl⟩ := H1
 rw [Qc]
 simp -dsimp +contextual (maxSteps := 100000000) only [↓evA, eZ, Nat.reduceAdd, Nat.reduceMul, Nat.reduceBEq, Nat.reduceLeDiff, Nat.reduceLT, Tryz.func28, Tryz.f28, a28, n28, srt, VM, Qm0, Qeh, Zi, QiC]
 try simp only [Qaj, eY]
 try simp only [List.contains_nil, Bool.not_false, Bool.and_true, VF, List.length_append, List.length_cons, List.length_nil, Nat.zero_add, VC, VL]
 all_goals rfl
theorem Qig (i i2) {R1 l} [H1 : EncL Qg R1 l] : LP T (n + 1) 102 2 (frm [(0, .imm 5 R1), (1, .i .i64 i), (5, .i .i64 i2)]) [] =
  VR (run (Jt l i) i2) (fun (zr : Int) => (XE.ret, frm [(4, .i .i64 zr)], [])) (fun (zr : Unit) => (XE.exit 0, frm [], [])) := by
 obtain ⟨rfl⟩ := H1
 rw [Qn]
 simp -dsimp only [↓evA, evB, Qf, Tryz.func102, Tryz.f102, QPI, QwW, TP, TZ, Nat.reduceAdd, Nat.reduceMul, Nat.reduceBEq, Nat.reduceLeDiff, Nat.reduceLT]
 apply Ql i2
 intro i2
 simp -dsimp +contextual only [↓evA, eZ, Nat.reduceAdd, Nat.reduceMul, Nat.reduceBEq, Nat.reduceLeDiff, Nat.reduceLT]
 try simp only [Jt, eY]
 all_goals rfl
theorem Qec (i) {R1 l} [H1 : EncL Qg R1 l] : CP T (n + 2) 102 [.imm 5 R1, .i .i64 i] = (Zg l i).map fun r => .i .i64 r := by
 obtain ⟨rfl⟩ := H1
 rw [Qc]
 simp -dsimp +contextual only [↓evA, eZ, Nat.reduceAdd, Nat.reduceMul, Nat.reduceBEq, Nat.reduceLeDiff, Nat.reduceLT, Tryz.func102, Tryz.f102, QPI, QwW, Qig]
 try simp only [Zg, eY]
 all_goals rfl
theorem Qi0 (c a) {R1 l} [H1 : EncL Vf R1 l] : CP T (n + 5) 240 [.imm 2 R1, .i .i64 c, .i .i64 a] = (Qah l c a).map fun r => .i .i64 r := by
 obtain ⟨rfl⟩ := H1
 rw [Qc]
 simp -dsimp +contextual only [↓evA, eZ, Nat.reduceAdd, Nat.reduceMul, Nat.reduceBEq, Nat.reduceLeDiff, Nat.reduceLT, Tryz.func240, Tryz.f240, QRm, QDA, QeJ, Vr, Ql6, Qpj]
 try simp only [Qah, eY]
 all_goals rfl
theorem Qif {R1 l R2 a} [H1 : EncL Vf R1 l] [H2 : EncR QA R2 a] : CP T (n + 6) 185 [.imm 2 R1, .agg R2] = (ZJ l a).map fun r => .i .i64 r := by
 rcases H1, H2 with ⟨⟨rfl⟩, ⟨rfl⟩⟩
 rw [Qc]
 simp -dsimp +contextual only [↓evA, eZ, Nat.reduceAdd, Nat.reduceMul, Nat.reduceBEq, Nat.reduceLeDiff, Nat.reduceLT, Tryz.func185, Tryz.f185, QTi, QBL, QdU, Qi0]
 try simp only [ZJ, eY]
 all_goals rfl
theorem Qi3 (q i) {R1 l} [H1 : EncL Vf R1 l] : LP T (n + 1) 186 2 (frm [(0, .imm 2 R1), (1, .i .i64 q), (5, .i .i64 i)]) [] =
  VR (run (Zc l q) i) (fun (zr : Int) => (XE.ret, frm [(4, .i .i64 zr)], [])) (fun (zr : Unit) => (XE.exit 0, frm [], [])) := by
 obtain ⟨rfl⟩ := H1
 rw [Qn]
 simp -dsimp only [↓evA, evB, Qf, Tryz.func186, Tryz.f186, QJA, Qyv, TP, TZ, Nat.reduceAdd, Nat.reduceMul, Nat.reduceBEq, Nat.reduceLeDiff, Nat.reduceLT]
 apply Ql i
 intro i
 simp -dsimp +contextual only [↓evA, eZ, Nat.reduceAdd, Nat.reduceMul, Nat.reduceBEq, Nat.reduceLeDiff, Nat.reduceLT]
 try simp only [Zc, eY]
 all_goals rfl
theorem QmL (q) {R1 l} [H1 : EncL Vf R1 l] : CP T (n + 2) 186 [.imm 2 R1, .i .i64 q] = (QcR l q).map fun r => .i .i64 r := by
 obtain ⟨rfl⟩ := H1
 rw [Qc]
 simp -dsimp +contextual only [↓evA, eZ, Nat.reduceAdd, Nat.reduceMul, Nat.reduceBEq, Nat.reduceLeDiff, Nat.reduceLT, Tryz.func186, Tryz.f186, QJA, Qyv, Qi3]
 try simp only [QcR, eY]
 all_goals rfl
theorem QkN (a2) {R1 l R2 a} [H1 : EncL Vf R1 l] [H2 : EncR QA R2 a] : CP T (n + 7) 104 [.imm 2 R1, .agg R2, .i .i64 a2] = (Qa0 l a a2).map fun r => .tup [.agg (QA r.1), .b r.2] := by
 rcases H1, H2 with ⟨⟨rfl⟩, ⟨rfl⟩⟩
 rw [Qc]
 simp -dsimp +contextual only [↓evA, eZ, Nat.reduceAdd, Nat.reduceMul, Nat.reduceBEq, Nat.reduceLeDiff, Nat.reduceLT, Tryz.func104, Tryz.f104, QU9, QBp, Qif, QmL]
 try simp only [Qa0, eY]
 all_goals rfl
theorem QkU (a2 a3) {R1 a} [H1 : EncR QC R1 a] : CP T (n + 13) 26 [.agg R1, .i .i64 a2, .i .i64 a3] = (Qbe a a2 a3).map fun r => .tup [.agg (Vz r.1), .b r.2] := by
 obtain ⟨rfl⟩ := H1
 rw [Qc]
 simp -dsimp +contextual (maxSteps := 100000000) only [↓evA, eZ, Nat.reduceAdd, Nat.reduceMul, Nat.reduceBEq, Nat.reduceLeDiff, Nat.reduceLT, Tryz.func26, Tryz.f26, a26, n26, srt, VM, Qec, QbV, Qhc, QkN, QdU, Zi]
 try simp only [Qbe, eY]
 all_goals rfl
theorem QgP (a k i) {R1 l} [H1 : EncL Qg R1 l] : LP T (n + 1) 116 3 (frm [(0, .imm 5 R1), (1, .i .i64 a), (5, .i .i64 k), (6, .i .i64 i)]) [] =
  (run (Vc l a) (k, i)).map (fun (zr : Int) => (XE.exit 0, frm [(0, .imm 5 (l.map Qg)), (5, .i .i64 zr)], [])) := by
 obtain ⟨rfl⟩ := H1
 rw [Qn]
 simp -dsimp only [↓evA, evB, Qf, Tryz.func116, Tryz.f116, QPU, Qxd, TP, TZ, Nat.reduceAdd, Nat.reduceMul, Nat.reduceBEq, Nat.reduceLeDiff, Nat.reduceLT]
 apply QD k i
 intro k i
 simp -dsimp +contextual only [↓evA, eZ, Nat.reduceAdd, Nat.reduceMul, Nat.reduceBEq, Nat.reduceLeDiff, Nat.reduceLT]
 try simp only [Vc, eY]
 all_goals rfl
theorem Qfa (a) {R1 l} [H1 : EncL Qg R1 l] : CP T (n + 2) 116 [.imm 5 R1, .i .i64 a] = (J6 l a).map fun r => .i .i64 r := by
 obtain ⟨rfl⟩ := H1
 rw [Qc]
 simp -dsimp +contextual only [↓evA, eZ, Nat.reduceAdd, Nat.reduceMul, Nat.reduceBEq, Nat.reduceLeDiff, Nat.reduceLT, Tryz.func116, Tryz.f116, QPU, Qxd, QgP]
 try simp only [J6, eY]
 all_goals rfl
theorem Qkw (s i) {R1 o} [H1 : EncL QL R1 o] : LP T (n + 1) 206 6 (frm [(6, .sl 0), (7, .i .i64 s), (8, .i .i64 i)]) [some (Ent.lst 3 R1)] =
  (run (V6 s) (o, i)).map (fun (zr : (List Slot)) => (XE.exit 0, frm [(6, .sl 0)], [some (Ent.lst 3 (zr.map QL))])) := by
 obtain ⟨rfl⟩ := H1
 rw [Qn]
 simp -dsimp only [↓evA, evB, Qf, Tryz.func206, Tryz.f206, QNe, Qxc, TP, TZ, Nat.reduceAdd, Nat.reduceMul, Nat.reduceBEq, Nat.reduceLeDiff, Nat.reduceLT]
 apply QD o i
 intro o i
 simp -dsimp +contextual only [↓evA, eZ, Nat.reduceAdd, Nat.reduceMul, Nat.reduceBEq, Nat.reduceLeDiff, Nat.reduceLT]
 try simp only [V6, eY]
 all_goals rfl
theorem Qoh (a) {R1 l} [H1 : EncL QL R1 l] : CP T (n + 4) 206 [.imm 3 R1, .i .i64 a] = (QdP l a).map fun r => .tup [.own 3 (r.1.map QL), .b r.2] := by
 obtain ⟨rfl⟩ := H1
 rw [Qc]
 simp -dsimp +contextual only [↓evA, eZ, Nat.reduceAdd, Nat.reduceMul, Nat.reduceBEq, Nat.reduceLeDiff, Nat.reduceLT, Tryz.func206, Tryz.f206, QNe, Qxc, Qeh, QeG, Qkw]
 try simp only [QdP, eY]
 all_goals first | rfl | (simp +contextual only [evN] <;> rfl)
theorem QfI (a2 a3 w) {R1 a} [H1 : EncR QC R1 a] : CP T (n + 9) 118 [.agg R1, .i .i64 a2, .i .i64 a3, .i .i64 w] = (ZN a a2 a3 w).map fun r => .tup [.agg (Vz r.1), .b r.2] := by
 obtain ⟨rfl⟩ := H1
 rw [Qc]
 simp -dsimp +contextual (maxSteps := 100000000) only [↓evA, eZ, Nat.reduceAdd, Nat.reduceMul, Nat.reduceBEq, Nat.reduceLeDiff, Nat.reduceLT, Tryz.func118, Tryz.f118, QTz, QDy, VM, Qoh, Qhe]
 try simp only [ZN, eY]
 all_goals rfl
theorem Qm6 (a a2) {R1 l} [H1 : EncL Qg R1 l] : CP T (n + 4) 119 [.imm 5 R1, .i .i64 a, .i .i64 a2] = (QcP l a a2).map fun r => .tup [.own 5 (r.1.map Qg), .b r.2] := by
 obtain ⟨rfl⟩ := H1
 rw [Qc]
 simp -dsimp +contextual only [↓evA, eZ, Nat.reduceAdd, Nat.reduceMul, Nat.reduceBEq, Nat.reduceLeDiff, Nat.reduceLT, Tryz.func119, Tryz.f119, QSw, QCM, Qec, Qea]
 try simp only [QcP, eY]
 all_goals first | rfl | (simp +contextual only [evN] <;> rfl)
theorem QpE (d) {R1 a} [H1 : EncR ZX R1 a] : CP T (n + 3) 121 [.agg R1, .i .i64 d] = (Qeq a d).map fun r => .i .i64 r := by
 obtain ⟨rfl⟩ := H1
 rw [Qc]
 simp -dsimp +contextual only [↓evA, eZ, Nat.reduceAdd, Nat.reduceMul, Nat.reduceBEq, Nat.reduceLeDiff, Nat.reduceLT, Tryz.func121, Tryz.f121, QP9, QDe, Qe1, Vr, QoG]
 try simp only [Qeq, eY]
 all_goals rfl
theorem Qmw {R1 l R2 a} [H1 : EncL QK R1 l] [H2 : EncR QK R2 a] : CP T (n + 4) 207 [.imm 4 R1, .agg R2] = (Qbl l a).map fun r => .tup [.own 4 (r.1.map QK), .b r.2] := by
 rcases H1, H2 with ⟨⟨rfl⟩, ⟨rfl⟩⟩
 rw [Qc]
 simp -dsimp +contextual only [↓evA, eZ, Nat.reduceAdd, Nat.reduceMul, Nat.reduceBEq, Nat.reduceLeDiff, Nat.reduceLT, Tryz.func207, Tryz.f207, QTL, QBP, Qfl]
 try simp only [Qbl, eY]
 try simp only [List.contains_nil, Bool.not_false, Bool.and_true, VF, List.length_append, List.length_cons, List.length_nil, Nat.zero_add, VC, VL]
 all_goals first | rfl | (simp +contextual only [evN] <;> rfl)
theorem QiN (axNo axNow f a2 c) {R1 axFinds R2 axSecrets R3 axSlots R4 axClaims R5 axTrials R6 axChain R7 axBook} [H1 : EncL Qv R1 axFinds] [H2 : EncL Qw R2 axSecrets] [H3 : EncL QL R3 axSlots] [H4 : EncL Qg R4 axClaims] [H5 : EncL QA R5 axTrials] [H6 : EncL Q1 R6 axChain] [H7 : EncL QK R7 axBook] : CM T (n + 5) 120 [some (Ent.lst 8 R1), some (Ent.lst 3 R2), some (Ent.lst 3 R3), some (Ent.lst 5 R4), some (Ent.lst 4 R5), some (Ent.lst 5 R6), some (Ent.lst 4 R7)] [.agg [.i .i64 axNo, .sl 0, .sl 1, .sl 2, .sl 3, .sl 4, .sl 5, .sl 6, .i .i64 axNow], .i .i64 f, .i .i64 a2, .i .i64 c] = (ZU (⟨axNo, axFinds, axSecrets, axSlots, axClaims, axTrials, axChain, axBook, axNow⟩ : House) f a2 c).map fun r => .tup [.agg (Vz r.1), .b r.2] := by
 rcases H1, H2, H3, H4, H5, H6, H7 with ⟨⟨rfl⟩, ⟨rfl⟩, ⟨rfl⟩, ⟨rfl⟩, ⟨rfl⟩, ⟨rfl⟩, ⟨rfl⟩⟩
 rw [Qqc]
 simp -dsimp +contextual (maxSteps := 100000000) only [↓evA, eZ, Nat.reduceAdd, Nat.reduceMul, Nat.reduceBEq, Nat.reduceLeDiff, Nat.reduceLT, Tryz.func120, Tryz.f120, QVc, QDU, Qmw]
 try simp only [ZU, eY]
 all_goals rfl
theorem Ql3 (a2) {R1 a} [H1 : EncR QC R1 a] : CP T (n + 13) 30 [.agg R1, .i .i64 a2] = (Qby a a2).map fun r => .tup [.agg (Vz r.1), .b r.2] := by
 obtain ⟨rfl⟩ := H1
 rw [Qc]
 simp -dsimp +contextual (maxSteps := 100000000) only [↓evA, eZ, Nat.reduceAdd, Nat.reduceMul, Nat.reduceBEq, Nat.reduceLeDiff, Nat.reduceLT, Tryz.func30, Tryz.f30, a30, n30, srt, Qfa, Zb, QbV, VM, Qec, QfI, Qm6, QpE, QiN, Zi]
 try simp only [Qby, eY]
 try simp only [List.contains_nil, Bool.not_false, Bool.and_true, VF, List.length_append, List.length_cons, List.length_nil, Nat.zero_add, VC, VL]
 all_goals rfl
theorem QjZ (i k) {R1 l} [H1 : EncL Vx R1 l] : LP T (n + 1) 222 7 (frm [(0, .imm 3 R1), (3, .i .i64 i), (4, .i .i64 k)]) [] =
  VR (run (Jx l i) k) (fun (zr : Bool) => (XE.ret, frm [(2, .b zr)], [])) (fun (zr : Unit) => (XE.exit 2, frm [(0, .imm 3 (l.map Vx)), (3, .i .i64 i)], [])) := by
 obtain ⟨rfl⟩ := H1
 rw [Qn]
 simp -dsimp only [↓evA, evB, Qf, Tryz.func222, Tryz.f222, a222, Qwq, TP, TZ, Nat.reduceAdd, Nat.reduceMul, Nat.reduceBEq, Nat.reduceLeDiff, Nat.reduceLT]
 apply Ql k
 intro k
 simp -dsimp +contextual only [↓evA, eZ, Nat.reduceAdd, Nat.reduceMul, Nat.reduceBEq, Nat.reduceLeDiff, Nat.reduceLT]
 try simp only [Jx, eY]
 all_goals rfl
theorem Qj2 (i) {R1 l} [H1 : EncL Vx R1 l] : LP T (n + 2) 222 2 (frm [(0, .imm 3 R1), (3, .i .i64 i)]) [] =
  VR (run (JA l) i) (fun (zr : Bool) => (XE.ret, frm [(2, .b zr)], [])) (fun (zr : Unit) => (XE.exit 0, frm [(0, .imm 3 (l.map Vx))], [])) := by
 obtain ⟨rfl⟩ := H1
 rw [Qn]
 simp -dsimp only [↓evA, evB, Qf, Tryz.func222, Tryz.f222, a222, Qwq, TP, TZ, Nat.reduceAdd, Nat.reduceMul, Nat.reduceBEq, Nat.reduceLeDiff, Nat.reduceLT]
 apply Ql i
 intro i
 simp -dsimp +contextual only [↓evA, eZ, Nat.reduceAdd, Nat.reduceMul, Nat.reduceBEq, Nat.reduceLeDiff, Nat.reduceLT, Vr, QjZ]
 try simp only [JA, eY]
 all_goals rfl
theorem Qon {R1 l} [H1 : EncL Vx R1 l] : CP T (n + 3) 222 [.imm 3 R1] = (QeS l).map fun r => .b r := by
 obtain ⟨rfl⟩ := H1
 rw [Qc]
 simp -dsimp +contextual only [↓evA, eZ, Nat.reduceAdd, Nat.reduceMul, Nat.reduceBEq, Nat.reduceLeDiff, Nat.reduceLT, Tryz.func222, Tryz.f222, a222, Qwq, Qj2]
 try simp only [QeS, eY]
 all_goals rfl
theorem QiB (i k) {R1 l R2 o} [H1 : EncL Vx R1 l] [H2 : EncL Vx R2 o] : LP T (n + 1) 223 6 (frm [(0, .imm 3 R1), (3, .sl 0), (4, .i .i64 i), (5, .i .i64 k)]) [some (Ent.lst 3 R2)] =
  (run (Jb l o i) k).map (fun (zr : Int) => (XE.exit 2, frm [(0, .imm 3 (l.map Vx)), (3, .sl 0), (4, .i .i64 i), (5, .i .i64 zr)], [some (Ent.lst 3 (o.map Vx))])) := by
 rcases H1, H2 with ⟨⟨rfl⟩, ⟨rfl⟩⟩
 rw [Qn]
 simp -dsimp only [↓evA, evB, Qf, Tryz.func223, Tryz.f223, QFI, Qwk, TP, TZ, Nat.reduceAdd, Nat.reduceMul, Nat.reduceBEq, Nat.reduceLeDiff, Nat.reduceLT]
 apply Ql k
 intro k
 simp -dsimp +contextual only [↓evA, eZ, Nat.reduceAdd, Nat.reduceMul, Nat.reduceBEq, Nat.reduceLeDiff, Nat.reduceLT]
 try simp only [Jb, eY]
 try simp only [List.contains_nil, Bool.not_false, Bool.and_true, VF, List.length_append, List.length_cons, List.length_nil, Nat.zero_add, VC, VL]
 all_goals rfl
theorem QiD (i) {R1 l R2 o} [H1 : EncL Vx R1 l] [H2 : EncL Vx R2 o] : LP T (n + 2) 223 3 (frm [(0, .imm 3 R1), (3, .sl 0), (4, .i .i64 i)]) [some (Ent.lst 3 R2)] =
  (run (Xp l) (o, i)).map (fun (zr : (List Bid)) => (XE.exit 0, frm [(3, .sl 0)], [some (Ent.lst 3 (zr.map Vx))])) := by
 rcases H1, H2 with ⟨⟨rfl⟩, ⟨rfl⟩⟩
 rw [Qn]
 simp -dsimp only [↓evA, evB, Qf, Tryz.func223, Tryz.f223, QFI, Qwk, TP, TZ, Nat.reduceAdd, Nat.reduceMul, Nat.reduceBEq, Nat.reduceLeDiff, Nat.reduceLT]
 apply QD o i
 intro o i
 simp -dsimp +contextual only [↓evA, eZ, Nat.reduceAdd, Nat.reduceMul, Nat.reduceBEq, Nat.reduceLeDiff, Nat.reduceLT, QiB]
 try simp only [Xp, eY]
 try simp only [List.contains_nil, Bool.not_false, Bool.and_true, VF, List.length_append, List.length_cons, List.length_nil, Nat.zero_add, VC, VL]
 all_goals rfl
theorem Qlw {R1 l} [H1 : EncL Vx R1 l] : CP T (n + 3) 223 [.imm 3 R1] = (QbZ l).map fun r => .own 3 (r.map Vx) := by
 obtain ⟨rfl⟩ := H1
 rw [Qc]
 simp -dsimp +contextual only [↓evA, eZ, Nat.reduceAdd, Nat.reduceMul, Nat.reduceBEq, Nat.reduceLeDiff, Nat.reduceLT, Tryz.func223, Tryz.f223, QFI, Qwk, QiD]
 try simp only [QbZ, eY]
 try simp only [List.contains_nil, Bool.not_false, Bool.and_true, VF, List.length_append, List.length_cons, List.length_nil, Nat.zero_add, VC, VL]
 all_goals first | rfl | (simp +contextual only [evN] <;> rfl)
theorem Qpm {R1 l} [H1 : EncL Vx R1 l] : CP T (n + 4) 140 [.imm 3 R1] = (QeC l).map fun r => .tup [.i .i64 r.1, .i .i64 r.2] := by
 obtain ⟨rfl⟩ := H1
 rw [Qc]
 simp -dsimp +contextual only [↓evA, eZ, Nat.reduceAdd, Nat.reduceMul, Nat.reduceBEq, Nat.reduceLeDiff, Nat.reduceLT, Tryz.func140, Tryz.f140, QQb, QAw, Qon, Qlw]
 try simp only [QeC, eY]
 all_goals rfl
theorem Qm4 (k) : CP T (n + 2) 270 [.i .i64 k] = (Qeo k).map fun r => .i .i64 r := by
 rw [Qc]
 simp -dsimp +contextual only [↓evA, eZ, Nat.reduceAdd, Nat.reduceMul, Nat.reduceBEq, Nat.reduceLeDiff, Nat.reduceLT, Tryz.func270, Tryz.f270, QSc, QCk, Vr]
 try simp only [Qeo, eY]
 all_goals rfl
end Go.Proofs.YtcdffihcfeajfaaGreat
