import Derived.Test.YtcdffihcfeajfaaGreatEq2
namespace Go.Proofs.YtcdffihcfeajfaaGreat
open Go Go.Proofs Go.Proofs.YtcdffihcfeajfaaGreat.Am
set_option maxHeartbeats 4000000
set_option linter.unusedVariables false
set_option linter.unusedSimpArgs false
set_option linter.defProp false
set_option maxRecDepth 100000
theorem QfS (n : Nat) {R1} {l : List Claim} (t4xId : Int) (t4xWho : Int) (t4xThing : Int) (t4xAt : Int) (t4xState : Int) {R2} {t10 : List Claim} (t11 : Int) (t12 : Int) {R3} {t62 : List Claim} (t63 : Int) (t64 : Int) [H1 : EncL Qc R1 l] [H2 : EncL Qc R2 t10] [H3 : EncL Qc R3 t62] : LP T (n + 1) 159 9 (frm [(0, .imm 5 R1), (4, .ptr 0 0 0), (10, .imm 5 R2), (11, .i .i64 t11), (12, .i .i64 t12), (62, .imm 5 R3), (63, .i .i64 t63), (64, .i .i64 t64)]) [some (Ent.box [.i .i64 t4xId, .i .i64 t4xWho, .i .i64 t4xThing, .i .i64 t4xAt, .i .i64 t4xState])] =
  VC (run (VH l (⟨t4xId, t4xWho, t4xThing, t4xAt, t4xState⟩ : Claim) t10 t11 t12 t62 t63) t64) (fun (zr : Bool) => (XE.ret, frm [(2, .b zr)], [])) (fun (zr : Unit) => (XE.exit 2, frm [(0, .imm 5 (l.map Qc)), (10, .imm 5 (t10.map Qc)), (11, .i .i64 t11), (12, .i .i64 t12)], [])) := by
 rcases H1, H2, H3 with ⟨⟨rfl⟩, ⟨rfl⟩, ⟨rfl⟩⟩
 rw [Qr]
 simp -dsimp only [↓evA, evB, Qj, Tryz.func159, Tryz.f159, QyU, TP, TZ, Nat.reduceAdd, Nat.reduceMul, Nat.reduceBEq, Nat.reduceLeDiff, Nat.reduceLT]
 refine run_map (fun (zs : Int) => (frm [(0, .imm 5 (l.map Qc)), (4, .ptr 0 0 0), (10, .imm 5 (t10.map Qc)), (11, .i .i64 t11), (12, .i .i64 t12), (62, .imm 5 (t62.map Qc)), (63, .i .i64 t63), (64, .i .i64 zs)], [some (Ent.box [.i .i64 t4xId, .i .i64 t4xWho, .i .i64 t4xThing, .i .i64 t4xAt, .i .i64 t4xState])])) (evO (fun (zr : Bool) => (XE.ret, frm [(2, .b zr)], [])) (fun (zr : Unit) => (XE.exit 2, frm [(0, .imm 5 (l.map Qc)), (10, .imm 5 (t10.map Qc)), (11, .i .i64 t11), (12, .i .i64 t12)], []))) ?_ t64
 intro t64
 simp -dsimp +contextual only [↓evA, eZ, Nat.reduceAdd, Nat.reduceMul, Nat.reduceBEq, Nat.reduceLeDiff, Nat.reduceLT]
 try simp only [VH, eY]
 all_goals rfl
theorem QfT (n : Nat) {R1} {l : List Claim} {R2} {t10 : List Claim} (t11 : Int) (t12 : Int) [H1 : EncL Qc R1 l] [H2 : EncL Qc R2 t10] : LP T (n + 2) 159 4 (frm [(0, .imm 5 R1), (10, .imm 5 R2), (11, .i .i64 t11), (12, .i .i64 t12)]) [] =
  VC (run (Xv l t10 t11) t12) (fun (zr : Bool) => (XE.ret, frm [(2, .b zr)], [])) (fun (zr : Unit) => (XE.exit 0, frm [], [])) := by
 rcases H1, H2 with ⟨⟨rfl⟩, ⟨rfl⟩⟩
 rw [Qr]
 simp -dsimp only [↓evA, evB, Qj, Tryz.func159, Tryz.f159, QyU, TP, TZ, Nat.reduceAdd, Nat.reduceMul, Nat.reduceBEq, Nat.reduceLeDiff, Nat.reduceLT]
 refine run_map (fun (zs : Int) => (frm [(0, .imm 5 (l.map Qc)), (10, .imm 5 (t10.map Qc)), (11, .i .i64 t11), (12, .i .i64 zs)], [])) (evO (fun (zr : Bool) => (XE.ret, frm [(2, .b zr)], [])) (fun (zr : Unit) => (XE.exit 0, frm [], []))) ?_ t12
 intro t12
 simp -dsimp +contextual only [↓evA, eZ, Nat.reduceAdd, Nat.reduceMul, Nat.reduceBEq, Nat.reduceLeDiff, Nat.reduceLT, Q2, QfS]
 try simp only [Xv, eY]
 all_goals rfl
theorem Qik (n : Nat) {R1} {l : List Claim} [H1 : EncL Qc R1 l] : CP T (n + 3) 159 [.imm 5 R1] = (Zd l).map fun r => .b r := by
 obtain ⟨rfl⟩ := H1
 rw [Qd]
 simp -dsimp +contextual only [↓evA, eZ, Nat.reduceAdd, Nat.reduceMul, Nat.reduceBEq, Nat.reduceLeDiff, Nat.reduceLT, Tryz.func159, Tryz.f159, QyU, QfT]
 try simp only [Zd, eY]
 all_goals rfl
theorem Qqm (n : Nat) (p : Int) (q : Int) : CP T (n + 2) 283 [.i .i64 p, .i .i64 q] = (QcD p q).map fun r => .i .i64 r := by
 rw [Qd]
 simp -dsimp +contextual only [↓evA, eZ, Nat.reduceAdd, Nat.reduceMul, Nat.reduceBEq, Nat.reduceLeDiff, Nat.reduceLT, Tryz.func283, Tryz.f283, QMk, Q2]
 try simp only [QcD, eY]
 all_goals rfl
theorem Qn8 (n : Nat) (acc : Int) (v : Int) : CP T (n + 3) 274 [.i .i64 acc, .i .i64 v] = (Qfy acc v).map fun r => .i .i64 r := by
 rw [Qd]
 simp -dsimp +contextual only [↓evA, eZ, Nat.reduceAdd, Nat.reduceMul, Nat.reduceBEq, Nat.reduceLeDiff, Nat.reduceLT, Tryz.func274, Tryz.f274, QPz, Qqm]
 try simp only [Qfy, eY]
 all_goals rfl
theorem Qln (n : Nat) (acc : Int) {R1} {t6 : List Int} (t7 : Int) (t8 : Int) [H1 : EncL Qt R1 t6] : LP T (n + 4) 256 3 (frm [(3, .i .i64 acc), (6, .imm 1 R1), (7, .i .i64 t7), (8, .i .i64 t8)]) [] =
  (run (QbJ t6 t7) (acc, t8)).map (fun (zr : Int) => (XE.exit 0, frm [(3, .i .i64 zr)], [])) := by
 obtain ⟨rfl⟩ := H1
 rw [Qr]
 simp -dsimp only [↓evA, evB, Qj, Tryz.func256, Tryz.f256, QDx, TP, TZ, Nat.reduceAdd, Nat.reduceMul, Nat.reduceBEq, Nat.reduceLeDiff, Nat.reduceLT]
 refine run_map (fun (zs : Int × Int) => (frm [(3, .i .i64 zs.1), (6, .imm 1 (t6.map Qt)), (7, .i .i64 t7), (8, .i .i64 zs.2)], [])) (fun (zr : Int) => (XE.exit 0, frm [(3, .i .i64 zr)], [])) ?_ (acc, t8)
 rintro ⟨acc, t8⟩
 simp -dsimp +contextual only [↓evA, eZ, Nat.reduceAdd, Nat.reduceMul, Nat.reduceBEq, Nat.reduceLeDiff, Nat.reduceLT, Qn8]
 try simp only [QbJ, eY]
 all_goals rfl
theorem Qoz (n : Nat) {R1} {values : List Int} [H1 : EncL Qt R1 values] : CP T (n + 5) 256 [.imm 1 R1] = (QdV values).map fun r => .i .i64 r := by
 obtain ⟨rfl⟩ := H1
 rw [Qd]
 simp -dsimp +contextual only [↓evA, eZ, Nat.reduceAdd, Nat.reduceMul, Nat.reduceBEq, Nat.reduceLeDiff, Nat.reduceLT, Tryz.func256, Tryz.f256, QDx, Qln]
 try simp only [QdV, eY]
 all_goals rfl
theorem Qes (n : Nat) (before : Int) (xxThing : Int) (xxHolder : Int) (xxWho : Int) (xxAt : Int) (xxSeal : Int) : CP T (n + 6) 221 [.i .i64 before, .agg [.i .i64 xxThing, .i .i64 xxHolder, .i .i64 xxWho, .i .i64 xxAt, .i .i64 xxSeal]] = (Xb before (⟨xxThing, xxHolder, xxWho, xxAt, xxSeal⟩ : Hand)).map fun r => .i .i64 r := by
 rw [Qd]
 simp -dsimp +contextual only [↓evA, eZ, Nat.reduceAdd, Nat.reduceMul, Nat.reduceBEq, Nat.reduceLeDiff, Nat.reduceLT, Tryz.func221, Tryz.f221, QOf, Qoz]
 try simp only [Xb, eY]
 all_goals rfl
theorem Qgp (n : Nat) {R1} {l : List Hand} (thing : Int) (i : Int) [H1 : EncL Qn R1 l] : LP T (n + 1) 235 2 (frm [(0, .imm 5 R1), (1, .i .i64 thing), (5, .i .i64 i)]) [] =
  VC (run (J0 l thing) i) (fun (zr : Int) => (XE.ret, frm [(4, .i .i64 zr)], [])) (fun (zr : Unit) => (XE.exit 0, frm [], [])) := by
 obtain ⟨rfl⟩ := H1
 rw [Qr]
 simp -dsimp only [↓evA, evB, Qj, Tryz.func235, Tryz.f235, QEj, TP, TZ, Nat.reduceAdd, Nat.reduceMul, Nat.reduceBEq, Nat.reduceLeDiff, Nat.reduceLT]
 refine run_map (fun (zs : Int) => (frm [(0, .imm 5 (l.map Qn)), (1, .i .i64 thing), (5, .i .i64 zs)], [])) (evO (fun (zr : Int) => (XE.ret, frm [(4, .i .i64 zr)], [])) (fun (zr : Unit) => (XE.exit 0, frm [], []))) ?_ i
 intro i
 simp -dsimp +contextual only [↓evA, eZ, Nat.reduceAdd, Nat.reduceMul, Nat.reduceBEq, Nat.reduceLeDiff, Nat.reduceLT]
 try simp only [J0, eY]
 all_goals rfl
theorem Qeq (n : Nat) {R1} {l : List Hand} (thing : Int) [H1 : EncL Qn R1 l] : CP T (n + 2) 235 [.imm 5 R1, .i .i64 thing] = (JR l thing).map fun r => .i .i64 r := by
 obtain ⟨rfl⟩ := H1
 rw [Qd]
 simp -dsimp +contextual only [↓evA, eZ, Nat.reduceAdd, Nat.reduceMul, Nat.reduceBEq, Nat.reduceLeDiff, Nat.reduceLT, Tryz.func235, Tryz.f235, QEj, Qgp]
 try simp only [JR, eY]
 all_goals rfl
theorem Qg9 (n : Nat) {R1} {l : List Hand} (t3 : Int) {R2} {t10 : List Hand} (t11 : Int) (t12 : Int) [H1 : EncL Qn R1 l] [H2 : EncL Qn R2 t10] : LP T (n + 7) 160 5 (frm [(0, .imm 5 R1), (3, .i .i64 t3), (10, .imm 5 R2), (11, .i .i64 t11), (12, .i .i64 t12)]) [] =
  VC (run (XH l t10 t11) (t3, t12)) (fun (zr : Bool) => (XE.ret, frm [(2, .b zr)], [])) (fun (zr : Unit) => (XE.exit 0, frm [], [])) := by
 rcases H1, H2 with ⟨⟨rfl⟩, ⟨rfl⟩⟩
 rw [Qr]
 simp -dsimp only [↓evA, evB, Qj, Tryz.func160, Tryz.f160, QJP, TP, TZ, Nat.reduceAdd, Nat.reduceMul, Nat.reduceBEq, Nat.reduceLeDiff, Nat.reduceLT]
 refine run_map (fun (zs : Int × Int) => (frm [(0, .imm 5 (l.map Qn)), (3, .i .i64 zs.1), (10, .imm 5 (t10.map Qn)), (11, .i .i64 t11), (12, .i .i64 zs.2)], [])) (evO (fun (zr : Bool) => (XE.ret, frm [(2, .b zr)], [])) (fun (zr : Unit) => (XE.exit 0, frm [], []))) ?_ (t3, t12)
 rintro ⟨t3, t12⟩
 simp -dsimp +contextual only [↓evA, eZ, Nat.reduceAdd, Nat.reduceMul, Nat.reduceBEq, Nat.reduceLeDiff, Nat.reduceLT, Q2, Qes, Qeq]
 try simp only [XH, eY]
 all_goals rfl
theorem QcY (n : Nat) {R1} {l : List Hand} [H1 : EncL Qn R1 l] : CP T (n + 8) 160 [.imm 5 R1] = (Vp l).map fun r => .b r := by
 obtain ⟨rfl⟩ := H1
 rw [Qd]
 simp -dsimp +contextual only [↓evA, eZ, Nat.reduceAdd, Nat.reduceMul, Nat.reduceBEq, Nat.reduceLeDiff, Nat.reduceLT, Tryz.func160, Tryz.f160, QJP, Qg9]
 try simp only [Vp, eY]
 all_goals rfl
theorem Qff (n : Nat) {R1} {l : List Entry} {R2} {t8 : List Entry} (t9 : Int) (t10 : Int) [H1 : EncL Qh R1 l] [H2 : EncL Qh R2 t8] : LP T (n + 2) 161 4 (frm [(0, .imm 4 R1), (8, .imm 4 R2), (9, .i .i64 t9), (10, .i .i64 t10)]) [] =
  VC (run (VV l t8 t9) t10) (fun (zr : Bool) => (XE.ret, frm [(2, .b zr)], [])) (fun (zr : Unit) => (XE.exit 0, frm [], [])) := by
 rcases H1, H2 with ⟨⟨rfl⟩, ⟨rfl⟩⟩
 rw [Qr]
 simp -dsimp only [↓evA, evB, Qj, Tryz.func161, Tryz.f161, QHB, TP, TZ, Nat.reduceAdd, Nat.reduceMul, Nat.reduceBEq, Nat.reduceLeDiff, Nat.reduceLT]
 refine run_map (fun (zs : Int) => (frm [(0, .imm 4 (l.map Qh)), (8, .imm 4 (t8.map Qh)), (9, .i .i64 t9), (10, .i .i64 zs)], [])) (evO (fun (zr : Bool) => (XE.ret, frm [(2, .b zr)], [])) (fun (zr : Unit) => (XE.exit 0, frm [], []))) ?_ t10
 intro t10
 simp -dsimp +contextual only [↓evA, eZ, Nat.reduceAdd, Nat.reduceMul, Nat.reduceBEq, Nat.reduceLeDiff, Nat.reduceLT, Q2]
 try simp only [VV, eY]
 all_goals rfl
theorem Qdu (n : Nat) {R1} {l : List Entry} [H1 : EncL Qh R1 l] : CP T (n + 3) 161 [.imm 4 R1] = (XK l).map fun r => .b r := by
 obtain ⟨rfl⟩ := H1
 rw [Qd]
 simp -dsimp +contextual only [↓evA, eZ, Nat.reduceAdd, Nat.reduceMul, Nat.reduceBEq, Nat.reduceLeDiff, Nat.reduceLT, Tryz.func161, Tryz.f161, QHB, Qff]
 try simp only [XK, eY]
 all_goals rfl
theorem QhD (n : Nat) {R1} {l : List Hand} (house : Int) {R2} {out : List Int} {R3} {t13 : List Hand} (t14 : Int) (t15 : Int) [H1 : EncL Qn R1 l] [H2 : EncL Qt R2 out] [H3 : EncL Qn R3 t13] : LP T (n + 3) 236 5 (frm [(0, .imm 5 R1), (1, .i .i64 house), (5, .sl 0), (13, .imm 5 R3), (14, .i .i64 t14), (15, .i .i64 t15)]) [some (Ent.lst 1 R2)] =
  (run (Jv l house t13 t14) (out, t15)).map (fun (zr : (List Int)) => (XE.exit 0, frm [(5, .sl 0)], [some (Ent.lst 1 (zr.map Qt))])) := by
 rcases H1, H2, H3 with ⟨⟨rfl⟩, ⟨rfl⟩, ⟨rfl⟩⟩
 rw [Qr]
 simp -dsimp only [↓evA, evB, Qj, Tryz.func236, Tryz.f236, QDi, TP, TZ, Nat.reduceAdd, Nat.reduceMul, Nat.reduceBEq, Nat.reduceLeDiff, Nat.reduceLT]
 refine run_map (fun (zs : (List Int) × Int) => (frm [(0, .imm 5 (l.map Qn)), (1, .i .i64 house), (5, .sl 0), (13, .imm 5 (t13.map Qn)), (14, .i .i64 t14), (15, .i .i64 zs.2)], [some (Ent.lst 1 (zs.1.map Qt))])) (fun (zr : (List Int)) => (XE.exit 0, frm [(5, .sl 0)], [some (Ent.lst 1 (zr.map Qt))])) ?_ (out, t15)
 rintro ⟨out, t15⟩
 simp -dsimp +contextual only [↓evA, eZ, Nat.reduceAdd, Nat.reduceMul, Nat.reduceBEq, Nat.reduceLeDiff, Nat.reduceLT, srt, Qeq]
 try simp only [Jv, eY]
 all_goals rfl
theorem QjV (n : Nat) {R1} {l : List Hand} (house : Int) [H1 : EncL Qn R1 l] : CP T (n + 9) 236 [.imm 5 R1, .i .i64 house] = (QbU l house).map fun r => .own 1 (r.map Qt) := by
 obtain ⟨rfl⟩ := H1
 rw [Qd]
 simp -dsimp +contextual only [↓evA, eZ, Nat.reduceAdd, Nat.reduceMul, Nat.reduceBEq, Nat.reduceLeDiff, Nat.reduceLT, Tryz.func236, Tryz.f236, QDi, srt, QcY, QhD]
 try simp only [QbU, eY]
 all_goals first | rfl | (simp +contextual only [evN] <;> rfl)
theorem QeA (n : Nat) {R1} {s : List Int} (v : Int) (t7 : Int) (t8 : Int) [H1 : EncL Qt R1 s] : LP T (n + 1) 266 2 (frm [(0, .imm 1 R1), (1, .i .i64 v), (7, .i .i64 t7), (8, .i .i64 t8)]) [] =
  VC (run (VN s v t7) t8) (fun (zr : Int) => (XE.ret, frm [(4, .i .i64 zr)], [])) (fun (zr : Unit) => (XE.exit 0, frm [], [])) := by
 obtain ⟨rfl⟩ := H1
 rw [Qr]
 simp -dsimp only [↓evA, evB, Qj, Tryz.func266, Tryz.f266, QEe, TP, TZ, Nat.reduceAdd, Nat.reduceMul, Nat.reduceBEq, Nat.reduceLeDiff, Nat.reduceLT]
 refine run_map (fun (zs : Int) => (frm [(0, .imm 1 (s.map Qt)), (1, .i .i64 v), (7, .i .i64 t7), (8, .i .i64 zs)], [])) (evO (fun (zr : Int) => (XE.ret, frm [(4, .i .i64 zr)], [])) (fun (zr : Unit) => (XE.exit 0, frm [], []))) ?_ t8
 intro t8
 simp -dsimp +contextual only [↓evA, eZ, Nat.reduceAdd, Nat.reduceMul, Nat.reduceBEq, Nat.reduceLeDiff, Nat.reduceLT]
 try simp only [VN, eY]
 all_goals rfl
theorem Qge (n : Nat) {R1} {s : List Int} (v : Int) [H1 : EncL Qt R1 s] : CP T (n + 2) 266 [.imm 1 R1, .i .i64 v] = (Qaq s v).map fun r => .i .i64 r := by
 obtain ⟨rfl⟩ := H1
 rw [Qd]
 simp -dsimp +contextual only [↓evA, eZ, Nat.reduceAdd, Nat.reduceMul, Nat.reduceBEq, Nat.reduceLeDiff, Nat.reduceLT, Tryz.func266, Tryz.f266, QEe, QeA]
 try simp only [Qaq, eY]
 all_goals rfl
theorem QeC (n : Nat) {R1} {s : List Int} (v : Int) [H1 : EncL Qt R1 s] : CP T (n + 3) 237 [.imm 1 R1, .i .i64 v] = (XP s v).map fun r => .b r := by
 obtain ⟨rfl⟩ := H1
 rw [Qd]
 simp -dsimp +contextual only [↓evA, eZ, Nat.reduceAdd, Nat.reduceMul, Nat.reduceBEq, Nat.reduceLeDiff, Nat.reduceLT, Tryz.func237, Tryz.f237, QLy, Qge]
 try simp only [XP, eY]
 all_goals rfl
theorem QhK (n : Nat) (t1xNo : Int) {R1} {t1xFinds : List Find} {R2} {t1xSecrets : List Secret} {R3} {t1xSlots : List Slot} {R4} {t1xClaims : List Claim} {R5} {t1xTrials : List Trial} {R6} {t1xChain : List Hand} {R7} {t1xBook : List Entry} (t1xNow : Int) {R8} {t3 : List Int} {R9} {t23 : List Find} (t24 : Int) (t25 : Int) [H1 : EncL Qp R1 t1xFinds] [H2 : EncL Qe R2 t1xSecrets] [H3 : EncL Qm R3 t1xSlots] [H4 : EncL Qc R4 t1xClaims] [H5 : EncL Qk R5 t1xTrials] [H6 : EncL Qn R6 t1xChain] [H7 : EncL Qh R7 t1xBook] [H8 : EncL Qt R8 t3] [H9 : EncL Qp R9 t23] : LP T (n + 5) 162 5 (frm [(1, .ptr 0 0 0), (3, .sl 1), (23, .imm 8 R9), (24, .i .i64 t24), (25, .i .i64 t25)]) [some (Ent.box [.i .i64 t1xNo, .imm 8 R1, .imm 3 R2, .imm 3 R3, .imm 5 R4, .imm 4 R5, .imm 5 R6, .imm 4 R7, .i .i64 t1xNow]), some (Ent.lst 1 R8)] =
  VC (run (Jt (⟨t1xNo, t1xFinds, t1xSecrets, t1xSlots, t1xClaims, t1xTrials, t1xChain, t1xBook, t1xNow⟩ : House) t3 t23 t24) t25) (fun (zr : Bool) => (XE.ret, frm [(2, .b zr)], [])) (fun (zr : Unit) => (XE.exit 0, frm [(1, .ptr 0 0 0), (3, .sl 1)], [some (Ent.box [.i .i64 t1xNo, .imm 8 (t1xFinds.map Qp), .imm 3 (t1xSecrets.map Qe), .imm 3 (t1xSlots.map Qm), .imm 5 (t1xClaims.map Qc), .imm 4 (t1xTrials.map Qk), .imm 5 (t1xChain.map Qn), .imm 4 (t1xBook.map Qh), .i .i64 t1xNow]), some (Ent.lst 1 (t3.map Qt))])) := by
 rcases H1, H2, H3, H4, H5, H6, H7, H8, H9 with ⟨⟨rfl⟩, ⟨rfl⟩, ⟨rfl⟩, ⟨rfl⟩, ⟨rfl⟩, ⟨rfl⟩, ⟨rfl⟩, ⟨rfl⟩, ⟨rfl⟩⟩
 rw [Qr]
 simp -dsimp only [↓evA, evB, Qj, Tryz.func162, Tryz.f162, Qww, TP, TZ, Nat.reduceAdd, Nat.reduceMul, Nat.reduceBEq, Nat.reduceLeDiff, Nat.reduceLT]
 refine run_map (fun (zs : Int) => (frm [(1, .ptr 0 0 0), (3, .sl 1), (23, .imm 8 (t23.map Qp)), (24, .i .i64 t24), (25, .i .i64 zs)], [some (Ent.box [.i .i64 t1xNo, .imm 8 (t1xFinds.map Qp), .imm 3 (t1xSecrets.map Qe), .imm 3 (t1xSlots.map Qm), .imm 5 (t1xClaims.map Qc), .imm 4 (t1xTrials.map Qk), .imm 5 (t1xChain.map Qn), .imm 4 (t1xBook.map Qh), .i .i64 t1xNow]), some (Ent.lst 1 (t3.map Qt))])) (evO (fun (zr : Bool) => (XE.ret, frm [(2, .b zr)], [])) (fun (zr : Unit) => (XE.exit 0, frm [(1, .ptr 0 0 0), (3, .sl 1)], [some (Ent.box [.i .i64 t1xNo, .imm 8 (t1xFinds.map Qp), .imm 3 (t1xSecrets.map Qe), .imm 3 (t1xSlots.map Qm), .imm 5 (t1xClaims.map Qc), .imm 4 (t1xTrials.map Qk), .imm 5 (t1xChain.map Qn), .imm 4 (t1xBook.map Qh), .i .i64 t1xNow]), some (Ent.lst 1 (t3.map Qt))]))) ?_ t25
 intro t25
 simp -dsimp +contextual (maxSteps := 100000000) only [↓evA, eZ, Nat.reduceAdd, Nat.reduceMul, Nat.reduceBEq, Nat.reduceLeDiff, Nat.reduceLT, Qa2, QeC]
 try simp only [Jt, eY]
 all_goals rfl
theorem Qgf (n : Nat) (t1xNo : Int) {R1} {t1xFinds : List Find} {R2} {t1xSecrets : List Secret} {R3} {t1xSlots : List Slot} {R4} {t1xClaims : List Claim} {R5} {t1xTrials : List Trial} {R6} {t1xChain : List Hand} {R7} {t1xBook : List Entry} (t1xNow : Int) {R8} {t3 : List Int} {R9} {t57 : List Slot} (t58 : Int) (t59 : Int) [H1 : EncL Qp R1 t1xFinds] [H2 : EncL Qe R2 t1xSecrets] [H3 : EncL Qm R3 t1xSlots] [H4 : EncL Qc R4 t1xClaims] [H5 : EncL Qk R5 t1xTrials] [H6 : EncL Qn R6 t1xChain] [H7 : EncL Qh R7 t1xBook] [H8 : EncL Qt R8 t3] [H9 : EncL Qm R9 t57] : LP T (n + 5) 162 11 (frm [(1, .ptr 0 0 0), (3, .sl 1), (57, .imm 3 R9), (58, .i .i64 t58), (59, .i .i64 t59)]) [some (Ent.box [.i .i64 t1xNo, .imm 8 R1, .imm 3 R2, .imm 3 R3, .imm 5 R4, .imm 4 R5, .imm 5 R6, .imm 4 R7, .i .i64 t1xNow]), some (Ent.lst 1 R8)] =
  VC (run (X0 (⟨t1xNo, t1xFinds, t1xSecrets, t1xSlots, t1xClaims, t1xTrials, t1xChain, t1xBook, t1xNow⟩ : House) t3 t57 t58) t59) (fun (zr : Bool) => (XE.ret, frm [(2, .b zr)], [])) (fun (zr : Unit) => (XE.exit 2, frm [(1, .ptr 0 0 0), (3, .sl 1)], [some (Ent.box [.i .i64 t1xNo, .imm 8 (t1xFinds.map Qp), .imm 3 (t1xSecrets.map Qe), .imm 3 (t1xSlots.map Qm), .imm 5 (t1xClaims.map Qc), .imm 4 (t1xTrials.map Qk), .imm 5 (t1xChain.map Qn), .imm 4 (t1xBook.map Qh), .i .i64 t1xNow]), some (Ent.lst 1 (t3.map Qt))])) := by
 rcases H1, H2, H3, H4, H5, H6, H7, H8, H9 with ⟨⟨rfl⟩, ⟨rfl⟩, ⟨rfl⟩, ⟨rfl⟩, ⟨rfl⟩, ⟨rfl⟩, ⟨rfl⟩, ⟨rfl⟩, ⟨rfl⟩⟩
 rw [Qr]
 simp -dsimp only [↓evA, evB, Qj, Tryz.func162, Tryz.f162, Qww, TP, TZ, Nat.reduceAdd, Nat.reduceMul, Nat.reduceBEq, Nat.reduceLeDiff, Nat.reduceLT]
 refine run_map (fun (zs : Int) => (frm [(1, .ptr 0 0 0), (3, .sl 1), (57, .imm 3 (t57.map Qm)), (58, .i .i64 t58), (59, .i .i64 zs)], [some (Ent.box [.i .i64 t1xNo, .imm 8 (t1xFinds.map Qp), .imm 3 (t1xSecrets.map Qe), .imm 3 (t1xSlots.map Qm), .imm 5 (t1xClaims.map Qc), .imm 4 (t1xTrials.map Qk), .imm 5 (t1xChain.map Qn), .imm 4 (t1xBook.map Qh), .i .i64 t1xNow]), some (Ent.lst 1 (t3.map Qt))])) (evO (fun (zr : Bool) => (XE.ret, frm [(2, .b zr)], [])) (fun (zr : Unit) => (XE.exit 2, frm [(1, .ptr 0 0 0), (3, .sl 1)], [some (Ent.box [.i .i64 t1xNo, .imm 8 (t1xFinds.map Qp), .imm 3 (t1xSecrets.map Qe), .imm 3 (t1xSlots.map Qm), .imm 5 (t1xClaims.map Qc), .imm 4 (t1xTrials.map Qk), .imm 5 (t1xChain.map Qn), .imm 4 (t1xBook.map Qh), .i .i64 t1xNow]), some (Ent.lst 1 (t3.map Qt))]))) ?_ t59
 intro t59
 simp -dsimp +contextual (maxSteps := 100000000) only [↓evA, eZ, Nat.reduceAdd, Nat.reduceMul, Nat.reduceBEq, Nat.reduceLeDiff, Nat.reduceLT, Qau]
 try simp only [X0, eY]
 all_goals rfl
theorem Qgu (n : Nat) (t1xNo : Int) {R1} {t1xFinds : List Find} {R2} {t1xSecrets : List Secret} {R3} {t1xSlots : List Slot} {R4} {t1xClaims : List Claim} {R5} {t1xTrials : List Trial} {R6} {t1xChain : List Hand} {R7} {t1xBook : List Entry} (t1xNow : Int) {R8} {t75 : List Int} (t76 : Int) (t77 : Int) [H1 : EncL Qp R1 t1xFinds] [H2 : EncL Qe R2 t1xSecrets] [H3 : EncL Qm R3 t1xSlots] [H4 : EncL Qc R4 t1xClaims] [H5 : EncL Qk R5 t1xTrials] [H6 : EncL Qn R6 t1xChain] [H7 : EncL Qh R7 t1xBook] [H8 : EncL Qt R8 t75] : LP T (n + 5) 162 17 (frm [(1, .ptr 0 0 0), (75, .sl 1), (76, .i .i64 t76), (77, .i .i64 t77)]) [some (Ent.box [.i .i64 t1xNo, .imm 8 R1, .imm 3 R2, .imm 3 R3, .imm 5 R4, .imm 4 R5, .imm 5 R6, .imm 4 R7, .i .i64 t1xNow]), some (Ent.lst 1 R8)] =
  VC (run (X4 (⟨t1xNo, t1xFinds, t1xSecrets, t1xSlots, t1xClaims, t1xTrials, t1xChain, t1xBook, t1xNow⟩ : House) t75 t76) t77) (fun (zr : Bool) => (XE.ret, frm [(2, .b zr)], [])) (fun (zr : Unit) => (XE.exit 4, frm [], [])) := by
 rcases H1, H2, H3, H4, H5, H6, H7, H8 with ⟨⟨rfl⟩, ⟨rfl⟩, ⟨rfl⟩, ⟨rfl⟩, ⟨rfl⟩, ⟨rfl⟩, ⟨rfl⟩, ⟨rfl⟩⟩
 rw [Qr]
 simp -dsimp only [↓evA, evB, Qj, Tryz.func162, Tryz.f162, Qww, TP, TZ, Nat.reduceAdd, Nat.reduceMul, Nat.reduceBEq, Nat.reduceLeDiff, Nat.reduceLT]
 refine run_map (fun (zs : Int) => (frm [(1, .ptr 0 0 0), (75, .sl 1), (76, .i .i64 t76), (77, .i .i64 zs)], [some (Ent.box [.i .i64 t1xNo, .imm 8 (t1xFinds.map Qp), .imm 3 (t1xSecrets.map Qe), .imm 3 (t1xSlots.map Qm), .imm 5 (t1xClaims.map Qc), .imm 4 (t1xTrials.map Qk), .imm 5 (t1xChain.map Qn), .imm 4 (t1xBook.map Qh), .i .i64 t1xNow]), some (Ent.lst 1 (t75.map Qt))])) (evO (fun (zr : Bool) => (XE.ret, frm [(2, .b zr)], [])) (fun (zr : Unit) => (XE.exit 4, frm [], []))) ?_ t77
 intro t77
 simp -dsimp +contextual (maxSteps := 100000000) only [↓evA, eZ, Nat.reduceAdd, Nat.reduceMul, Nat.reduceBEq, Nat.reduceLeDiff, Nat.reduceLT, Qau]
 try simp only [X4, eY]
 all_goals rfl
theorem QkQ (n : Nat) (vhxNo : Int) {R1} {vhxFinds : List Find} {R2} {vhxSecrets : List Secret} {R3} {vhxSlots : List Slot} {R4} {vhxClaims : List Claim} {R5} {vhxTrials : List Trial} {R6} {vhxChain : List Hand} {R7} {vhxBook : List Entry} (vhxNow : Int) [H1 : EncL Qp R1 vhxFinds] [H2 : EncL Qe R2 vhxSecrets] [H3 : EncL Qm R3 vhxSlots] [H4 : EncL Qc R4 vhxClaims] [H5 : EncL Qk R5 vhxTrials] [H6 : EncL Qn R6 vhxChain] [H7 : EncL Qh R7 vhxBook] : CP T (n + 10) 162 [.agg [.i .i64 vhxNo, .imm 8 R1, .imm 3 R2, .imm 3 R3, .imm 5 R4, .imm 4 R5, .imm 5 R6, .imm 4 R7, .i .i64 vhxNow]] = (Zq (⟨vhxNo, vhxFinds, vhxSecrets, vhxSlots, vhxClaims, vhxTrials, vhxChain, vhxBook, vhxNow⟩ : House)).map fun r => .b r := by
 rcases H1, H2, H3, H4, H5, H6, H7 with ⟨⟨rfl⟩, ⟨rfl⟩, ⟨rfl⟩, ⟨rfl⟩, ⟨rfl⟩, ⟨rfl⟩, ⟨rfl⟩⟩
 rw [Qd]
 simp -dsimp +contextual (maxSteps := 100000000) only [↓evA, eZ, Nat.reduceAdd, Nat.reduceMul, Nat.reduceBEq, Nat.reduceLeDiff, Nat.reduceLT, Tryz.func162, Tryz.f162, Qww, QjV, QhK, Qgf, Qgu]
 try simp only [Zq, eY]
 all_goals rfl
theorem Qe6 (n : Nat) (xxClaim : Int) (xxAsked : Int) (xxRight : Int) (xxWrong : Int) : CP T (n + 2) 196 [.agg [.i .i64 xxClaim, .i .i64 xxAsked, .i .i64 xxRight, .i .i64 xxWrong]] = (Qar (⟨xxClaim, xxAsked, xxRight, xxWrong⟩ : Trial)).map fun r => .b r := by
 rw [Qd]
 simp -dsimp +contextual only [↓evA, eZ, Nat.reduceAdd, Nat.reduceMul, Nat.reduceBEq, Nat.reduceLeDiff, Nat.reduceLT, Tryz.func196, Tryz.f196, QOc, Q2]
 try simp only [Qar, eY]
 all_goals rfl
theorem Qhf (n : Nat) (xxThing : Int) {R1} {xxMarks : List Mark} (xxSalt : Int) (c : Int) [H1 : EncL Q4 R1 xxMarks] : CP T (n + 1) 242 [.agg [.i .i64 xxThing, .imm 2 R1, .i .i64 xxSalt], .iptr 1 [[.i .i64 c]] 0 0] = (Qa1 (⟨xxThing, xxMarks, xxSalt⟩ : Secret) c).map fun r => .b r := by
 obtain ⟨rfl⟩ := H1
 rw [Qd]
 simp -dsimp +contextual only [↓evA, eZ, Nat.reduceAdd, Nat.reduceMul, Nat.reduceBEq, Nat.reduceLeDiff, Nat.reduceLT, Tryz.func242, Tryz.f242, QNZ]
 try simp only [Qa1, eY]
 all_goals rfl
theorem JW (n : Nat) {R1} {s : List Secret} (f : Int) (t7 : Int) (t8 : Int) [H1 : EncL Qe R1 s] : LP T (n + 2) 241 2 (frm [(0, .imm 3 R1), (1, .clo 242 [.iptr 1 [[.i .i64 f]] 0 0]), (7, .i .i64 t7), (8, .i .i64 t8)]) [] =
  VC (run (Qv s f t7) t8) (fun (zr : Int) => (XE.ret, frm [(4, .i .i64 zr)], [])) (fun (zr : Unit) => (XE.exit 0, frm [], [])) := by
 obtain ⟨rfl⟩ := H1
 rw [Qr]
 simp -dsimp only [↓evA, evB, Qj, Tryz.func241, Tryz.f241, QGJ, TP, TZ, Nat.reduceAdd, Nat.reduceMul, Nat.reduceBEq, Nat.reduceLeDiff, Nat.reduceLT]
 refine run_map (fun (zs : Int) => (frm [(0, .imm 3 (s.map Qe)), (1, .clo 242 [.iptr 1 [[.i .i64 f]] 0 0]), (7, .i .i64 t7), (8, .i .i64 zs)], [])) (evO (fun (zr : Int) => (XE.ret, frm [(4, .i .i64 zr)], [])) (fun (zr : Unit) => (XE.exit 0, frm [], []))) ?_ t8
 intro t8
 simp -dsimp +contextual only [↓evA, eZ, Nat.reduceAdd, Nat.reduceMul, Nat.reduceBEq, Nat.reduceLeDiff, Nat.reduceLT, Qhf]
 try simp only [Qv, eY]
 all_goals rfl
theorem Zp (n : Nat) {R1} {s : List Secret} (c : Int) [H1 : EncL Qe R1 s] : CP T (n + 3) 241 [.imm 3 R1, .clo 242 [.iptr 1 [[.i .i64 c]] 0 0]] = (Q3 s c).map fun r => .i .i64 r := by
 obtain ⟨rfl⟩ := H1
 rw [Qd]
 simp -dsimp +contextual only [↓evA, eZ, Nat.reduceAdd, Nat.reduceMul, Nat.reduceBEq, Nat.reduceLeDiff, Nat.reduceLT, Tryz.func241, Tryz.f241, QGJ, JW]
 try simp only [Q3, eY]
 all_goals rfl
theorem Qi6 (n : Nat) {R1} {l : List Secret} (thing : Int) [H1 : EncL Qe R1 l] : CP T (n + 4) 192 [.imm 3 R1, .i .i64 thing] = (Qcj l thing).map fun r => .i .i64 r := by
 obtain ⟨rfl⟩ := H1
 rw [Qd]
 simp -dsimp +contextual only [↓evA, eZ, Nat.reduceAdd, Nat.reduceMul, Nat.reduceBEq, Nat.reduceLeDiff, Nat.reduceLT, Tryz.func192, Tryz.f192, QMQ, Zp]
 try simp only [Qcj, eY]
 all_goals rfl
theorem QcK (n : Nat) {R1} {s : List Mark} [H1 : EncL Q4 R1 s] : CP T (n + 1) 193 [.imm 2 R1] = (Xx s).map fun r => .own 2 (r.map Q4) := by
 obtain ⟨rfl⟩ := H1
 rw [Qd]
 simp -dsimp +contextual only [↓evA, eZ, Nat.reduceAdd, Nat.reduceMul, Nat.reduceBEq, Nat.reduceLeDiff, Nat.reduceLT, Tryz.func193, Tryz.f193, QN3]
 try simp only [Xx, eY]
 all_goals first | rfl | (simp +contextual only [evN] <;> rfl)
theorem Qj0 (n : Nat) {R1} {l : List Secret} (thing : Int) [H1 : EncL Qe R1 l] : CP T (n + 5) 107 [.imm 3 R1, .i .i64 thing] = (QbF l thing).map fun r => .own 2 (r.map Q4) := by
 obtain ⟨rfl⟩ := H1
 rw [Qd]
 simp -dsimp +contextual only [↓evA, eZ, Nat.reduceAdd, Nat.reduceMul, Nat.reduceBEq, Nat.reduceLeDiff, Nat.reduceLT, Tryz.func107, Tryz.f107, QNc, Qi6, QcK]
 try simp only [QbF, eY]
 all_goals first | rfl | (simp +contextual only [evN] <;> rfl)
theorem Qkt (n : Nat) {R1} {l : List Mark} [H1 : EncL Q4 R1 l] : CP T (n + 1) 198 [.imm 2 R1] = (Qao l).map fun r => .i .i64 r := by
 obtain ⟨rfl⟩ := H1
 rw [Qd]
 simp -dsimp +contextual only [↓evA, eZ, Nat.reduceAdd, Nat.reduceMul, Nat.reduceBEq, Nat.reduceLeDiff, Nat.reduceLT, Tryz.func198, Tryz.f198, QOe]
 try simp only [Qao, eY]
 all_goals rfl
theorem Qhw (n : Nat) {R1} {l : List Mark} (xxClaim : Int) (xxAsked : Int) (xxRight : Int) (xxWrong : Int) [H1 : EncL Q4 R1 l] : CP T (n + 4) 109 [.imm 2 R1, .agg [.i .i64 xxClaim, .i .i64 xxAsked, .i .i64 xxRight, .i .i64 xxWrong]] = (Zz l (⟨xxClaim, xxAsked, xxRight, xxWrong⟩ : Trial)).map fun r => .i .i64 r := by
 obtain ⟨rfl⟩ := H1
 rw [Qd]
 simp -dsimp +contextual only [↓evA, eZ, Nat.reduceAdd, Nat.reduceMul, Nat.reduceBEq, Nat.reduceLeDiff, Nat.reduceLT, Tryz.func109, Tryz.f109, QPc, Qe6, Qet, Qkt]
 try simp only [Zz, eY]
 all_goals rfl
theorem QlV (n : Nat) (state : Int) : CP T (n + 1) 238 [.i .i64 state] = (Qdi state).map fun r => .i .i64 r := by
 rw [Qd]
 simp -dsimp +contextual only [↓evA, eZ, Nat.reduceAdd, Nat.reduceMul, Nat.reduceBEq, Nat.reduceLeDiff, Nat.reduceLT, Tryz.func238, Tryz.f238, QLP]
 try simp only [Qdi, eY]
 all_goals rfl
theorem Qf2 (n : Nat) (vhxNo : Int) {R1} {vhxFinds : List Find} {R2} {vhxSecrets : List Secret} {R3} {vhxSlots : List Slot} {R4} {vhxClaims : List Claim} {R5} {vhxTrials : List Trial} {R6} {vhxChain : List Hand} {R7} {vhxBook : List Entry} (vhxNow : Int) {R8} {t14 : List Claim} (t15 : Int) (t16 : Int) [H1 : EncL Qp R1 vhxFinds] [H2 : EncL Qe R2 vhxSecrets] [H3 : EncL Qm R3 vhxSlots] [H4 : EncL Qc R4 vhxClaims] [H5 : EncL Qk R5 vhxTrials] [H6 : EncL Qn R6 vhxChain] [H7 : EncL Qh R7 vhxBook] [H8 : EncL Qc R8 t14] : LP T (n + 6) 163 4 (frm [(1, .ptr 0 0 0), (14, .imm 5 R8), (15, .i .i64 t15), (16, .i .i64 t16)]) [some (Ent.box [.i .i64 vhxNo, .imm 8 R1, .imm 3 R2, .imm 3 R3, .imm 5 R4, .imm 4 R5, .imm 5 R6, .imm 4 R7, .i .i64 vhxNow])] =
  VC (run (Xs (⟨vhxNo, vhxFinds, vhxSecrets, vhxSlots, vhxClaims, vhxTrials, vhxChain, vhxBook, vhxNow⟩ : House) t14 t15) t16) (fun (zr : Bool) => (XE.ret, frm [(2, .b zr)], [])) (fun (zr : Unit) => (XE.exit 0, frm [], [])) := by
 rcases H1, H2, H3, H4, H5, H6, H7, H8 with ⟨⟨rfl⟩, ⟨rfl⟩, ⟨rfl⟩, ⟨rfl⟩, ⟨rfl⟩, ⟨rfl⟩, ⟨rfl⟩, ⟨rfl⟩⟩
 rw [Qr]
 simp -dsimp only [↓evA, evB, Qj, Tryz.func163, Tryz.f163, QDC, TP, TZ, Nat.reduceAdd, Nat.reduceMul, Nat.reduceBEq, Nat.reduceLeDiff, Nat.reduceLT]
 refine run_map (fun (zs : Int) => (frm [(1, .ptr 0 0 0), (14, .imm 5 (t14.map Qc)), (15, .i .i64 t15), (16, .i .i64 zs)], [some (Ent.box [.i .i64 vhxNo, .imm 8 (vhxFinds.map Qp), .imm 3 (vhxSecrets.map Qe), .imm 3 (vhxSlots.map Qm), .imm 5 (vhxClaims.map Qc), .imm 4 (vhxTrials.map Qk), .imm 5 (vhxChain.map Qn), .imm 4 (vhxBook.map Qh), .i .i64 vhxNow])])) (evO (fun (zr : Bool) => (XE.ret, frm [(2, .b zr)], [])) (fun (zr : Unit) => (XE.exit 0, frm [], []))) ?_ t16
 intro t16
 simp -dsimp +contextual (maxSteps := 100000000) only [↓evA, eZ, Nat.reduceAdd, Nat.reduceMul, Nat.reduceBEq, Nat.reduceLeDiff, Nat.reduceLT, Qau, Qe6, Qj0, Qhw, QlV]
 try simp only [Xs, eY]
 all_goals rfl
theorem Qiy (n : Nat) (vhxNo : Int) {R1} {vhxFinds : List Find} {R2} {vhxSecrets : List Secret} {R3} {vhxSlots : List Slot} {R4} {vhxClaims : List Claim} {R5} {vhxTrials : List Trial} {R6} {vhxChain : List Hand} {R7} {vhxBook : List Entry} (vhxNow : Int) [H1 : EncL Qp R1 vhxFinds] [H2 : EncL Qe R2 vhxSecrets] [H3 : EncL Qm R3 vhxSlots] [H4 : EncL Qc R4 vhxClaims] [H5 : EncL Qk R5 vhxTrials] [H6 : EncL Qn R6 vhxChain] [H7 : EncL Qh R7 vhxBook] : CP T (n + 7) 163 [.agg [.i .i64 vhxNo, .imm 8 R1, .imm 3 R2, .imm 3 R3, .imm 5 R4, .imm 4 R5, .imm 5 R6, .imm 4 R7, .i .i64 vhxNow]] = (Jh (⟨vhxNo, vhxFinds, vhxSecrets, vhxSlots, vhxClaims, vhxTrials, vhxChain, vhxBook, vhxNow⟩ : House)).map fun r => .b r := by
 rcases H1, H2, H3, H4, H5, H6, H7 with ⟨⟨rfl⟩, ⟨rfl⟩, ⟨rfl⟩, ⟨rfl⟩, ⟨rfl⟩, ⟨rfl⟩, ⟨rfl⟩⟩
 rw [Qd]
 simp -dsimp +contextual (maxSteps := 100000000) only [↓evA, eZ, Nat.reduceAdd, Nat.reduceMul, Nat.reduceBEq, Nat.reduceLeDiff, Nat.reduceLT, Tryz.func163, Tryz.f163, QDC, Qf2]
 try simp only [Jh, eY]
 all_goals rfl
theorem QiE (n : Nat) (vhxNo : Int) {R1} {vhxFinds : List Find} {R2} {vhxSecrets : List Secret} {R3} {vhxSlots : List Slot} {R4} {vhxClaims : List Claim} {R5} {vhxTrials : List Trial} {R6} {vhxChain : List Hand} {R7} {vhxBook : List Entry} (vhxNow : Int) (vat : Int) {R8} {t13 : List Find} (t14 : Int) (t15 : Int) [H1 : EncL Qp R1 vhxFinds] [H2 : EncL Qe R2 vhxSecrets] [H3 : EncL Qm R3 vhxSlots] [H4 : EncL Qc R4 vhxClaims] [H5 : EncL Qk R5 vhxTrials] [H6 : EncL Qn R6 vhxChain] [H7 : EncL Qh R7 vhxBook] [H8 : EncL Qp R8 t13] : LP T (n + 1) 164 3 (frm [(1, .ptr 0 0 0), (3, .i .i64 vat), (13, .imm 8 R8), (14, .i .i64 t14), (15, .i .i64 t15)]) [some (Ent.box [.i .i64 vhxNo, .imm 8 R1, .imm 3 R2, .imm 3 R3, .imm 5 R4, .imm 4 R5, .imm 5 R6, .imm 4 R7, .i .i64 vhxNow])] =
  (run (Zc (⟨vhxNo, vhxFinds, vhxSecrets, vhxSlots, vhxClaims, vhxTrials, vhxChain, vhxBook, vhxNow⟩ : House) t13 t14) (vat, t15)).map (fun (zr : Int) => (XE.exit 0, frm [(1, .ptr 0 0 0), (3, .i .i64 zr)], [some (Ent.box [.i .i64 vhxNo, .imm 8 (vhxFinds.map Qp), .imm 3 (vhxSecrets.map Qe), .imm 3 (vhxSlots.map Qm), .imm 5 (vhxClaims.map Qc), .imm 4 (vhxTrials.map Qk), .imm 5 (vhxChain.map Qn), .imm 4 (vhxBook.map Qh), .i .i64 vhxNow])])) := by
 rcases H1, H2, H3, H4, H5, H6, H7, H8 with ⟨⟨rfl⟩, ⟨rfl⟩, ⟨rfl⟩, ⟨rfl⟩, ⟨rfl⟩, ⟨rfl⟩, ⟨rfl⟩, ⟨rfl⟩⟩
 rw [Qr]
 simp -dsimp only [↓evA, evB, Qj, Tryz.func164, Tryz.f164, Qus, TP, TZ, Nat.reduceAdd, Nat.reduceMul, Nat.reduceBEq, Nat.reduceLeDiff, Nat.reduceLT]
 refine run_map (fun (zs : Int × Int) => (frm [(1, .ptr 0 0 0), (3, .i .i64 zs.1), (13, .imm 8 (t13.map Qp)), (14, .i .i64 t14), (15, .i .i64 zs.2)], [some (Ent.box [.i .i64 vhxNo, .imm 8 (vhxFinds.map Qp), .imm 3 (vhxSecrets.map Qe), .imm 3 (vhxSlots.map Qm), .imm 5 (vhxClaims.map Qc), .imm 4 (vhxTrials.map Qk), .imm 5 (vhxChain.map Qn), .imm 4 (vhxBook.map Qh), .i .i64 vhxNow])])) (fun (zr : Int) => (XE.exit 0, frm [(1, .ptr 0 0 0), (3, .i .i64 zr)], [some (Ent.box [.i .i64 vhxNo, .imm 8 (vhxFinds.map Qp), .imm 3 (vhxSecrets.map Qe), .imm 3 (vhxSlots.map Qm), .imm 5 (vhxClaims.map Qc), .imm 4 (vhxTrials.map Qk), .imm 5 (vhxChain.map Qn), .imm 4 (vhxBook.map Qh), .i .i64 vhxNow])])) ?_ (vat, t15)
 rintro ⟨vat, t15⟩
 simp -dsimp +contextual (maxSteps := 100000000) only [↓evA, eZ, Nat.reduceAdd, Nat.reduceMul, Nat.reduceBEq, Nat.reduceLeDiff, Nat.reduceLT]
 try simp only [Zc, eY]
 all_goals rfl
theorem Qiz (n : Nat) (vhxNo : Int) {R1} {vhxFinds : List Find} {R2} {vhxSecrets : List Secret} {R3} {vhxSlots : List Slot} {R4} {vhxClaims : List Claim} {R5} {vhxTrials : List Trial} {R6} {vhxChain : List Hand} {R7} {vhxBook : List Entry} (vhxNow : Int) (vat : Int) {R8} {t25 : List Claim} (t26 : Int) (t27 : Int) [H1 : EncL Qp R1 vhxFinds] [H2 : EncL Qe R2 vhxSecrets] [H3 : EncL Qm R3 vhxSlots] [H4 : EncL Qc R4 vhxClaims] [H5 : EncL Qk R5 vhxTrials] [H6 : EncL Qn R6 vhxChain] [H7 : EncL Qh R7 vhxBook] [H8 : EncL Qc R8 t25] : LP T (n + 1) 164 8 (frm [(1, .ptr 0 0 0), (3, .i .i64 vat), (25, .imm 5 R8), (26, .i .i64 t26), (27, .i .i64 t27)]) [some (Ent.box [.i .i64 vhxNo, .imm 8 R1, .imm 3 R2, .imm 3 R3, .imm 5 R4, .imm 4 R5, .imm 5 R6, .imm 4 R7, .i .i64 vhxNow])] =
  (run (Zf (⟨vhxNo, vhxFinds, vhxSecrets, vhxSlots, vhxClaims, vhxTrials, vhxChain, vhxBook, vhxNow⟩ : House) t25 t26) (vat, t27)).map (fun (zr : Int) => (XE.exit 2, frm [(1, .ptr 0 0 0), (3, .i .i64 zr)], [some (Ent.box [.i .i64 vhxNo, .imm 8 (vhxFinds.map Qp), .imm 3 (vhxSecrets.map Qe), .imm 3 (vhxSlots.map Qm), .imm 5 (vhxClaims.map Qc), .imm 4 (vhxTrials.map Qk), .imm 5 (vhxChain.map Qn), .imm 4 (vhxBook.map Qh), .i .i64 vhxNow])])) := by
 rcases H1, H2, H3, H4, H5, H6, H7, H8 with ⟨⟨rfl⟩, ⟨rfl⟩, ⟨rfl⟩, ⟨rfl⟩, ⟨rfl⟩, ⟨rfl⟩, ⟨rfl⟩, ⟨rfl⟩⟩
 rw [Qr]
 simp -dsimp only [↓evA, evB, Qj, Tryz.func164, Tryz.f164, Qus, TP, TZ, Nat.reduceAdd, Nat.reduceMul, Nat.reduceBEq, Nat.reduceLeDiff, Nat.reduceLT]
 refine run_map (fun (zs : Int × Int) => (frm [(1, .ptr 0 0 0), (3, .i .i64 zs.1), (25, .imm 5 (t25.map Qc)), (26, .i .i64 t26), (27, .i .i64 zs.2)], [some (Ent.box [.i .i64 vhxNo, .imm 8 (vhxFinds.map Qp), .imm 3 (vhxSecrets.map Qe), .imm 3 (vhxSlots.map Qm), .imm 5 (vhxClaims.map Qc), .imm 4 (vhxTrials.map Qk), .imm 5 (vhxChain.map Qn), .imm 4 (vhxBook.map Qh), .i .i64 vhxNow])])) (fun (zr : Int) => (XE.exit 2, frm [(1, .ptr 0 0 0), (3, .i .i64 zr)], [some (Ent.box [.i .i64 vhxNo, .imm 8 (vhxFinds.map Qp), .imm 3 (vhxSecrets.map Qe), .imm 3 (vhxSlots.map Qm), .imm 5 (vhxClaims.map Qc), .imm 4 (vhxTrials.map Qk), .imm 5 (vhxChain.map Qn), .imm 4 (vhxBook.map Qh), .i .i64 vhxNow])])) ?_ (vat, t27)
 rintro ⟨vat, t27⟩
 simp -dsimp +contextual (maxSteps := 100000000) only [↓evA, eZ, Nat.reduceAdd, Nat.reduceMul, Nat.reduceBEq, Nat.reduceLeDiff, Nat.reduceLT]
 try simp only [Zf, eY]
 all_goals rfl
theorem QhL (n : Nat) (vhxNo : Int) {R1} {vhxFinds : List Find} {R2} {vhxSecrets : List Secret} {R3} {vhxSlots : List Slot} {R4} {vhxClaims : List Claim} {R5} {vhxTrials : List Trial} {R6} {vhxChain : List Hand} {R7} {vhxBook : List Entry} (vhxNow : Int) (vat : Int) {R8} {t37 : List Hand} (t38 : Int) (t39 : Int) [H1 : EncL Qp R1 vhxFinds] [H2 : EncL Qe R2 vhxSecrets] [H3 : EncL Qm R3 vhxSlots] [H4 : EncL Qc R4 vhxClaims] [H5 : EncL Qk R5 vhxTrials] [H6 : EncL Qn R6 vhxChain] [H7 : EncL Qh R7 vhxBook] [H8 : EncL Qn R8 t37] : LP T (n + 1) 164 13 (frm [(1, .ptr 0 0 0), (3, .i .i64 vat), (37, .imm 5 R8), (38, .i .i64 t38), (39, .i .i64 t39)]) [some (Ent.box [.i .i64 vhxNo, .imm 8 R1, .imm 3 R2, .imm 3 R3, .imm 5 R4, .imm 4 R5, .imm 5 R6, .imm 4 R7, .i .i64 vhxNow])] =
  (run (JA (⟨vhxNo, vhxFinds, vhxSecrets, vhxSlots, vhxClaims, vhxTrials, vhxChain, vhxBook, vhxNow⟩ : House) t37 t38) (vat, t39)).map (fun (zr : Int) => (XE.exit 4, frm [(1, .ptr 0 0 0), (3, .i .i64 zr)], [some (Ent.box [.i .i64 vhxNo, .imm 8 (vhxFinds.map Qp), .imm 3 (vhxSecrets.map Qe), .imm 3 (vhxSlots.map Qm), .imm 5 (vhxClaims.map Qc), .imm 4 (vhxTrials.map Qk), .imm 5 (vhxChain.map Qn), .imm 4 (vhxBook.map Qh), .i .i64 vhxNow])])) := by
 rcases H1, H2, H3, H4, H5, H6, H7, H8 with ⟨⟨rfl⟩, ⟨rfl⟩, ⟨rfl⟩, ⟨rfl⟩, ⟨rfl⟩, ⟨rfl⟩, ⟨rfl⟩, ⟨rfl⟩⟩
 rw [Qr]
 simp -dsimp only [↓evA, evB, Qj, Tryz.func164, Tryz.f164, Qus, TP, TZ, Nat.reduceAdd, Nat.reduceMul, Nat.reduceBEq, Nat.reduceLeDiff, Nat.reduceLT]
 refine run_map (fun (zs : Int × Int) => (frm [(1, .ptr 0 0 0), (3, .i .i64 zs.1), (37, .imm 5 (t37.map Qn)), (38, .i .i64 t38), (39, .i .i64 zs.2)], [some (Ent.box [.i .i64 vhxNo, .imm 8 (vhxFinds.map Qp), .imm 3 (vhxSecrets.map Qe), .imm 3 (vhxSlots.map Qm), .imm 5 (vhxClaims.map Qc), .imm 4 (vhxTrials.map Qk), .imm 5 (vhxChain.map Qn), .imm 4 (vhxBook.map Qh), .i .i64 vhxNow])])) (fun (zr : Int) => (XE.exit 4, frm [(1, .ptr 0 0 0), (3, .i .i64 zr)], [some (Ent.box [.i .i64 vhxNo, .imm 8 (vhxFinds.map Qp), .imm 3 (vhxSecrets.map Qe), .imm 3 (vhxSlots.map Qm), .imm 5 (vhxClaims.map Qc), .imm 4 (vhxTrials.map Qk), .imm 5 (vhxChain.map Qn), .imm 4 (vhxBook.map Qh), .i .i64 vhxNow])])) ?_ (vat, t39)
 rintro ⟨vat, t39⟩
 simp -dsimp +contextual (maxSteps := 100000000) only [↓evA, eZ, Nat.reduceAdd, Nat.reduceMul, Nat.reduceBEq, Nat.reduceLeDiff, Nat.reduceLT]
 try simp only [JA, eY]
 all_goals rfl
theorem QhX (n : Nat) (vat : Int) {R1} {t49 : List Entry} (t50 : Int) (t51 : Int) [H1 : EncL Qh R1 t49] : LP T (n + 1) 164 18 (frm [(3, .i .i64 vat), (49, .imm 4 R1), (50, .i .i64 t50), (51, .i .i64 t51)]) [] =
  (run (Jm t49 t50) (vat, t51)).map (fun (zr : Int) => (XE.exit 6, frm [(3, .i .i64 zr)], [])) := by
 obtain ⟨rfl⟩ := H1
 rw [Qr]
 simp -dsimp only [↓evA, evB, Qj, Tryz.func164, Tryz.f164, Qus, TP, TZ, Nat.reduceAdd, Nat.reduceMul, Nat.reduceBEq, Nat.reduceLeDiff, Nat.reduceLT]
 refine run_map (fun (zs : Int × Int) => (frm [(3, .i .i64 zs.1), (49, .imm 4 (t49.map Qh)), (50, .i .i64 t50), (51, .i .i64 zs.2)], [])) (fun (zr : Int) => (XE.exit 6, frm [(3, .i .i64 zr)], [])) ?_ (vat, t51)
 rintro ⟨vat, t51⟩
 simp -dsimp +contextual only [↓evA, eZ, Nat.reduceAdd, Nat.reduceMul, Nat.reduceBEq, Nat.reduceLeDiff, Nat.reduceLT]
 try simp only [Jm, eY]
 all_goals rfl
theorem Qme (n : Nat) (vhxNo : Int) {R1} {vhxFinds : List Find} {R2} {vhxSecrets : List Secret} {R3} {vhxSlots : List Slot} {R4} {vhxClaims : List Claim} {R5} {vhxTrials : List Trial} {R6} {vhxChain : List Hand} {R7} {vhxBook : List Entry} (vhxNow : Int) [H1 : EncL Qp R1 vhxFinds] [H2 : EncL Qe R2 vhxSecrets] [H3 : EncL Qm R3 vhxSlots] [H4 : EncL Qc R4 vhxClaims] [H5 : EncL Qk R5 vhxTrials] [H6 : EncL Qn R6 vhxChain] [H7 : EncL Qh R7 vhxBook] : CP T (n + 2) 164 [.agg [.i .i64 vhxNo, .imm 8 R1, .imm 3 R2, .imm 3 R3, .imm 5 R4, .imm 4 R5, .imm 5 R6, .imm 4 R7, .i .i64 vhxNow]] = (QcF (⟨vhxNo, vhxFinds, vhxSecrets, vhxSlots, vhxClaims, vhxTrials, vhxChain, vhxBook, vhxNow⟩ : House)).map fun r => .i .i64 r := by
 rcases H1, H2, H3, H4, H5, H6, H7 with ⟨⟨rfl⟩, ⟨rfl⟩, ⟨rfl⟩, ⟨rfl⟩, ⟨rfl⟩, ⟨rfl⟩, ⟨rfl⟩⟩
 rw [Qd]
 simp -dsimp +contextual (maxSteps := 100000000) only [↓evA, eZ, Nat.reduceAdd, Nat.reduceMul, Nat.reduceBEq, Nat.reduceLeDiff, Nat.reduceLT, Tryz.func164, Tryz.f164, Qus, QiE, Qiz, QhL, QhX]
 try simp only [QcF, eY]
 all_goals rfl
theorem QeY (n : Nat) (vhxNo : Int) {R1} {vhxFinds : List Find} {R2} {vhxSecrets : List Secret} {R3} {vhxSlots : List Slot} {R4} {vhxClaims : List Claim} {R5} {vhxTrials : List Trial} {R6} {vhxChain : List Hand} {R7} {vhxBook : List Entry} (vhxNow : Int) [H1 : EncL Qp R1 vhxFinds] [H2 : EncL Qe R2 vhxSecrets] [H3 : EncL Qm R3 vhxSlots] [H4 : EncL Qc R4 vhxClaims] [H5 : EncL Qk R5 vhxTrials] [H6 : EncL Qn R6 vhxChain] [H7 : EncL Qh R7 vhxBook] : CP T (n + 11) 64 [.agg [.i .i64 vhxNo, .imm 8 R1, .imm 3 R2, .imm 3 R3, .imm 5 R4, .imm 4 R5, .imm 5 R6, .imm 4 R7, .i .i64 vhxNow]] = (Vx (⟨vhxNo, vhxFinds, vhxSecrets, vhxSlots, vhxClaims, vhxTrials, vhxChain, vhxBook, vhxNow⟩ : House)).map fun r => .b r := by
 rcases H1, H2, H3, H4, H5, H6, H7 with ⟨⟨rfl⟩, ⟨rfl⟩, ⟨rfl⟩, ⟨rfl⟩, ⟨rfl⟩, ⟨rfl⟩, ⟨rfl⟩⟩
 rw [Qd]
 simp -dsimp +contextual (maxSteps := 100000000) only [↓evA, eZ, Nat.reduceAdd, Nat.reduceMul, Nat.reduceBEq, Nat.reduceLeDiff, Nat.reduceLT, Tryz.func64, Tryz.f64, a64, Q2, Qi9, Qhu, Qeo, Qik, QcY, Qdu, QkQ, Qiy, Qme]
 try simp only [Vx, eY]
 all_goals rfl
theorem QlY (n : Nat) (vhxNo : Int) {R1} {vhxFinds : List Find} {R2} {vhxSecrets : List Secret} {R3} {vhxSlots : List Slot} {R4} {vhxClaims : List Claim} {R5} {vhxTrials : List Trial} {R6} {vhxChain : List Hand} {R7} {vhxBook : List Entry} (vhxNow : Int) (thing : Int) [H1 : EncL Qp R1 vhxFinds] [H2 : EncL Qe R2 vhxSecrets] [H3 : EncL Qm R3 vhxSlots] [H4 : EncL Qc R4 vhxClaims] [H5 : EncL Qk R5 vhxTrials] [H6 : EncL Qn R6 vhxChain] [H7 : EncL Qh R7 vhxBook] : CP T (n + 12) 122 [.agg [.i .i64 vhxNo, .imm 8 R1, .imm 3 R2, .imm 3 R3, .imm 5 R4, .imm 4 R5, .imm 5 R6, .imm 4 R7, .i .i64 vhxNow], .i .i64 thing] = (Qdg (⟨vhxNo, vhxFinds, vhxSecrets, vhxSlots, vhxClaims, vhxTrials, vhxChain, vhxBook, vhxNow⟩ : House) thing).map fun r => .tup [.agg (Qp r.1), .b r.2] := by
 rcases H1, H2, H3, H4, H5, H6, H7 with ⟨⟨rfl⟩, ⟨rfl⟩, ⟨rfl⟩, ⟨rfl⟩, ⟨rfl⟩, ⟨rfl⟩, ⟨rfl⟩⟩
 rw [Qd]
 simp -dsimp +contextual (maxSteps := 100000000) only [↓evA, eZ, Nat.reduceAdd, Nat.reduceMul, Nat.reduceBEq, Nat.reduceLeDiff, Nat.reduceLT, Tryz.func122, Tryz.f122, QMC, Qau, QeY, Qa2]
 try simp only [Qdg, eY]
 all_goals rfl
theorem QnC (n : Nat) (xxWho : Int) (xxCents : Int) (xxSeal : Int) : CP T (n + 2) 257 [.agg [.i .i64 xxWho, .i .i64 xxCents, .i .i64 xxSeal]] = (Qc8 (⟨xxWho, xxCents, xxSeal⟩ : Bid)).map fun r => .b r := by
 rw [Qd]
 simp -dsimp +contextual only [↓evA, eZ, Nat.reduceAdd, Nat.reduceMul, Nat.reduceBEq, Nat.reduceLeDiff, Nat.reduceLT, Tryz.func257, Tryz.f257, QN0, Q2]
 try simp only [Qc8, eY]
 all_goals rfl
theorem QiK (n : Nat) (yxWho : Int) (yxCents : Int) (yxSeal : Int) (cxWho : Int) (cxCents : Int) (cxSeal : Int) : CP T (n + 1) 259 [.agg [.i .i64 yxWho, .i .i64 yxCents, .i .i64 yxSeal], .iptr 3 [[.i .i64 cxWho, .i .i64 cxCents, .i .i64 cxSeal]] 0 0] = (QbT (⟨yxWho, yxCents, yxSeal⟩ : Bid) (⟨cxWho, cxCents, cxSeal⟩ : Bid)).map fun r => .b r := by
 rw [Qd]
 simp -dsimp +contextual only [↓evA, eZ, Nat.reduceAdd, Nat.reduceMul, Nat.reduceBEq, Nat.reduceLeDiff, Nat.reduceLT, Tryz.func259, Tryz.f259, QPd]
 try simp only [QbT, eY]
 all_goals rfl
theorem ZL (n : Nat) {R1} {s : List Bid} (fxWho : Int) (fxCents : Int) (fxSeal : Int) (t7 : Int) (t8 : Int) [H1 : EncL QY R1 s] : LP T (n + 2) 275 2 (frm [(0, .imm 3 R1), (1, .clo 259 [.iptr 3 [[.i .i64 fxWho, .i .i64 fxCents, .i .i64 fxSeal]] 0 0]), (7, .i .i64 t7), (8, .i .i64 t8)]) [] =
  VC (run (QD s (⟨fxWho, fxCents, fxSeal⟩ : Bid) t7) t8) (fun (zr : Int) => (XE.ret, frm [(4, .i .i64 zr)], [])) (fun (zr : Unit) => (XE.exit 0, frm [], [])) := by
 obtain ⟨rfl⟩ := H1
 rw [Qr]
 simp -dsimp only [↓evA, evB, Qj, Tryz.func275, Tryz.f275, QJS, TP, TZ, Nat.reduceAdd, Nat.reduceMul, Nat.reduceBEq, Nat.reduceLeDiff, Nat.reduceLT]
 refine run_map (fun (zs : Int) => (frm [(0, .imm 3 (s.map QY)), (1, .clo 259 [.iptr 3 [[.i .i64 fxWho, .i .i64 fxCents, .i .i64 fxSeal]] 0 0]), (7, .i .i64 t7), (8, .i .i64 zs)], [])) (evO (fun (zr : Int) => (XE.ret, frm [(4, .i .i64 zr)], [])) (fun (zr : Unit) => (XE.exit 0, frm [], []))) ?_ t8
 intro t8
 simp -dsimp +contextual only [↓evA, eZ, Nat.reduceAdd, Nat.reduceMul, Nat.reduceBEq, Nat.reduceLeDiff, Nat.reduceLT, QiK]
 try simp only [QD, eY]
 all_goals rfl
theorem Qag (n : Nat) {R1} {s : List Bid} (cxWho : Int) (cxCents : Int) (cxSeal : Int) [H1 : EncL QY R1 s] : CP T (n + 3) 275 [.imm 3 R1, .clo 259 [.iptr 3 [[.i .i64 cxWho, .i .i64 cxCents, .i .i64 cxSeal]] 0 0]] = (Vc s (⟨cxWho, cxCents, cxSeal⟩ : Bid)).map fun r => .i .i64 r := by
 obtain ⟨rfl⟩ := H1
 rw [Qd]
 simp -dsimp +contextual only [↓evA, eZ, Nat.reduceAdd, Nat.reduceMul, Nat.reduceBEq, Nat.reduceLeDiff, Nat.reduceLT, Tryz.func275, Tryz.f275, QJS, ZL]
 try simp only [Vc, eY]
 all_goals rfl
theorem ZA (n : Nat) {R1} {s : List Bid} (cxWho : Int) (cxCents : Int) (cxSeal : Int) [H1 : EncL QY R1 s] : CP T (n + 4) 258 [.imm 3 R1, .clo 259 [.iptr 3 [[.i .i64 cxWho, .i .i64 cxCents, .i .i64 cxSeal]] 0 0]] = (QL s (⟨cxWho, cxCents, cxSeal⟩ : Bid)).map fun r => .b r := by
 obtain ⟨rfl⟩ := H1
 rw [Qd]
 simp -dsimp +contextual only [↓evA, eZ, Nat.reduceAdd, Nat.reduceMul, Nat.reduceBEq, Nat.reduceLeDiff, Nat.reduceLT, Tryz.func258, Tryz.f258, QO2, Qag]
 try simp only [QL, eY]
 all_goals rfl
theorem Qhv (n : Nat) {R1} {l : List Bid} {R2} {t8 : List Bid} (t9 : Int) (t10 : Int) [H1 : EncL QY R1 l] [H2 : EncL QY R2 t8] : LP T (n + 5) 225 4 (frm [(0, .imm 3 R1), (8, .imm 3 R2), (9, .i .i64 t9), (10, .i .i64 t10)]) [] =
  VC (run (Jn l t8 t9) t10) (fun (zr : Bool) => (XE.ret, frm [(2, .b zr)], [])) (fun (zr : Unit) => (XE.exit 0, frm [], [])) := by
 rcases H1, H2 with ⟨⟨rfl⟩, ⟨rfl⟩⟩
 rw [Qr]
 simp -dsimp only [↓evA, evB, Qj, Tryz.func225, Tryz.f225, QGI, TP, TZ, Nat.reduceAdd, Nat.reduceMul, Nat.reduceBEq, Nat.reduceLeDiff, Nat.reduceLT]
 refine run_map (fun (zs : Int) => (frm [(0, .imm 3 (l.map QY)), (8, .imm 3 (t8.map QY)), (9, .i .i64 t9), (10, .i .i64 zs)], [])) (evO (fun (zr : Bool) => (XE.ret, frm [(2, .b zr)], [])) (fun (zr : Unit) => (XE.exit 0, frm [], []))) ?_ t10
 intro t10
 simp -dsimp +contextual only [↓evA, eZ, Nat.reduceAdd, Nat.reduceMul, Nat.reduceBEq, Nat.reduceLeDiff, Nat.reduceLT, QnC, ZA]
 try simp only [Jn, eY]
 all_goals rfl
theorem Qla (n : Nat) {R1} {l : List Bid} [H1 : EncL QY R1 l] : CP T (n + 6) 225 [.imm 3 R1] = (QcR l).map fun r => .b r := by
 obtain ⟨rfl⟩ := H1
 rw [Qd]
 simp -dsimp +contextual only [↓evA, eZ, Nat.reduceAdd, Nat.reduceMul, Nat.reduceBEq, Nat.reduceLeDiff, Nat.reduceLT, Tryz.func225, Tryz.f225, QGI, Qhv]
 try simp only [QcR, eY]
 all_goals rfl
theorem QgF (n : Nat) {R1} {s : List Bid} [H1 : EncL QY R1 s] : CP T (n + 1) 260 [.imm 3 R1] = (Qay s).map fun r => .own 3 (r.map QY) := by
 obtain ⟨rfl⟩ := H1
 rw [Qd]
 simp -dsimp +contextual only [↓evA, eZ, Nat.reduceAdd, Nat.reduceMul, Nat.reduceBEq, Nat.reduceLeDiff, Nat.reduceLT, Tryz.func260, Tryz.f260, QKS]
 try simp only [Qay, eY]
 all_goals first | rfl | (simp +contextual only [evN] <;> rfl)
theorem QjG (n : Nat) (x : Int) : CP T (n + 1) 277 [.i .i64 x] = (QaP x).map fun r => .b r := by
 rw [Qd]
 simp -dsimp +contextual only [↓evA, eZ, Nat.reduceAdd, Nat.reduceMul, Nat.reduceBEq, Nat.reduceLeDiff, Nat.reduceLT, Tryz.func277, Tryz.f277, QOo]
 try simp only [QaP, eY]
 all_goals rfl
theorem Qhi (n : Nat) (x : Int) (y : Int) : CP T (n + 2) 263 [.i .i64 x, .i .i64 y] = (Qa5 x y).map fun r => .i .i64 r := by
 rw [Qd]
 simp -dsimp +contextual only [↓evA, eZ, Nat.reduceAdd, Nat.reduceMul, Nat.reduceBEq, Nat.reduceLeDiff, Nat.reduceLT, Tryz.func263, Tryz.f263, QPM, QjG]
 try simp only [Qa5, eY]
 all_goals rfl
theorem QfP (n : Nat) (axWho : Int) (axCents : Int) (axSeal : Int) (bxWho : Int) (bxCents : Int) (bxSeal : Int) : CP T (n + 3) 262 [.agg [.i .i64 axWho, .i .i64 axCents, .i .i64 axSeal], .agg [.i .i64 bxWho, .i .i64 bxCents, .i .i64 bxSeal]] = (JM (⟨axWho, axCents, axSeal⟩ : Bid) (⟨bxWho, bxCents, bxSeal⟩ : Bid)).map fun r => .i .i64 r := by
 rw [Qd]
 simp -dsimp +contextual only [↓evA, eZ, Nat.reduceAdd, Nat.reduceMul, Nat.reduceBEq, Nat.reduceLeDiff, Nat.reduceLT, Tryz.func262, Tryz.f262, QMf, Qhi]
 try simp only [JM, eY]
 all_goals rfl
theorem Xk (n : Nat) {R1} {data : List Bid} (a : Int) (b : Int) (i : Int) (j : Int) [H1 : EncL QY R1 data] : LP T (n + 4) 284 4 (frm [(0, .sl 0), (1, .i .i64 a), (2, .i .i64 b), (3, .clo 262 []), (8, .i .i64 i), (9, .i .i64 j)]) [some (Ent.lst 3 R1)] =
  (run (Qq a b i) (data, j)).map (fun (zr : (List Bid)) => (XE.exit 2, frm [(0, .sl 0), (1, .i .i64 a), (2, .i .i64 b), (3, .clo 262 []), (8, .i .i64 i)], [some (Ent.lst 3 (zr.map QY))])) := by
 obtain ⟨rfl⟩ := H1
 rw [Qr]
 simp -dsimp only [↓evA, evB, Qj, Tryz.func284, Tryz.f284, QzD, TP, TZ, Nat.reduceAdd, Nat.reduceMul, Nat.reduceBEq, Nat.reduceLeDiff, Nat.reduceLT]
 refine run_map (fun (zs : (List Bid) × Int) => (frm [(0, .sl 0), (1, .i .i64 a), (2, .i .i64 b), (3, .clo 262 []), (8, .i .i64 i), (9, .i .i64 zs.2)], [some (Ent.lst 3 (zs.1.map QY))])) (fun (zr : (List Bid)) => (XE.exit 2, frm [(0, .sl 0), (1, .i .i64 a), (2, .i .i64 b), (3, .clo 262 []), (8, .i .i64 i)], [some (Ent.lst 3 (zr.map QY))])) ?_ (data, j)
 rintro ⟨data, j⟩
 simp -dsimp +contextual only [↓evA, eZ, Nat.reduceAdd, Nat.reduceMul, Nat.reduceBEq, Nat.reduceLeDiff, Nat.reduceLT, QfP]
 try simp only [Qq, eY]
 all_goals rfl
theorem Xj (n : Nat) {R1} {data : List Bid} (a : Int) (b : Int) (i : Int) [H1 : EncL QY R1 data] : LP T (n + 5) 284 1 (frm [(0, .sl 0), (1, .i .i64 a), (2, .i .i64 b), (3, .clo 262 []), (8, .i .i64 i)]) [some (Ent.lst 3 R1)] =
  (run (Ql a b) (data, i)).map (fun (zr : (List Bid)) => (XE.exit 0, frm [(0, .sl 0)], [some (Ent.lst 3 (zr.map QY))])) := by
 obtain ⟨rfl⟩ := H1
 rw [Qr]
 simp -dsimp only [↓evA, evB, Qj, Tryz.func284, Tryz.f284, QzD, TP, TZ, Nat.reduceAdd, Nat.reduceMul, Nat.reduceBEq, Nat.reduceLeDiff, Nat.reduceLT]
 refine run_map (fun (zs : (List Bid) × Int) => (frm [(0, .sl 0), (1, .i .i64 a), (2, .i .i64 b), (3, .clo 262 []), (8, .i .i64 zs.2)], [some (Ent.lst 3 (zs.1.map QY))])) (fun (zr : (List Bid)) => (XE.exit 0, frm [(0, .sl 0)], [some (Ent.lst 3 (zr.map QY))])) ?_ (data, i)
 rintro ⟨data, i⟩
 simp -dsimp +contextual only [↓evA, eZ, Nat.reduceAdd, Nat.reduceMul, Nat.reduceBEq, Nat.reduceLeDiff, Nat.reduceLT, Xk]
 try simp only [Ql, eY]
 all_goals rfl
theorem Vk (n : Nat) {R1} {data : List Bid} (a : Int) (b : Int) [H1 : EncL QY R1 data] : CA T (n + 6) 284 [some (Ent.lst 3 R1)] [.sl 0, .i .i64 a, .i .i64 b, .clo 262 []] = (Qi data a b).map fun r => (.tup [], [some (Ent.lst 3 (r.map QY))]) := by
 obtain ⟨rfl⟩ := H1
 rw [QdU]
 simp -dsimp +contextual only [↓evA, eZ, Nat.reduceAdd, Nat.reduceMul, Nat.reduceBEq, Nat.reduceLeDiff, Nat.reduceLT, Tryz.func284, Tryz.f284, QzD, Xj]
 try simp only [Qi, eY]
 all_goals rfl
theorem Jk (n : Nat) {R1} {data : List Bid} (vn : Int) (blockSize : Int) (a : Int) (b : Int) [H1 : EncL QY R1 data] : LP T (n + 7) 276 2 (frm [(0, .sl 0), (1, .i .i64 vn), (2, .clo 262 []), (6, .i .i64 blockSize), (7, .i .i64 a), (8, .i .i64 b)]) [some (Ent.lst 3 R1)] =
  (run (Qo vn blockSize) (data, a, b)).map (fun (zr : (List Bid) × Int) => (XE.exit 0, frm [(0, .sl 0), (1, .i .i64 vn), (2, .clo 262 []), (6, .i .i64 blockSize), (7, .i .i64 zr.2)], [some (Ent.lst 3 (zr.1.map QY))])) := by
 obtain ⟨rfl⟩ := H1
 rw [Qr]
 simp -dsimp only [↓evA, evB, Qj, Tryz.func276, Tryz.f276, Qv9, TP, TZ, Nat.reduceAdd, Nat.reduceMul, Nat.reduceBEq, Nat.reduceLeDiff, Nat.reduceLT]
 refine run_map (fun (zs : (List Bid) × Int × Int) => (frm [(0, .sl 0), (1, .i .i64 vn), (2, .clo 262 []), (6, .i .i64 blockSize), (7, .i .i64 zs.2.1), (8, .i .i64 zs.2.2)], [some (Ent.lst 3 (zs.1.map QY))])) (fun (zr : (List Bid) × Int) => (XE.exit 0, frm [(0, .sl 0), (1, .i .i64 vn), (2, .clo 262 []), (6, .i .i64 blockSize), (7, .i .i64 zr.2)], [some (Ent.lst 3 (zr.1.map QY))])) ?_ (data, a, b)
 rintro ⟨data, a, b⟩
 simp -dsimp +contextual only [↓evA, eZ, Nat.reduceAdd, Nat.reduceMul, Nat.reduceBEq, Nat.reduceLeDiff, Nat.reduceLT, srt, Vk]
 try simp only [Qo, eY]
 all_goals rfl
theorem Jl (n : Nat) {R1} {data : List Bid} (vn : Int) (blockSize : Int) (a : Int) (b : Int) [H1 : EncL QY R1 data] : LP T (n + 2) 276 9 (frm [(0, .sl 0), (1, .i .i64 vn), (2, .clo 262 []), (6, .i .i64 blockSize), (7, .i .i64 a), (8, .i .i64 b)]) [some (Ent.lst 3 R1)] =
  (run (Q9 data vn blockSize a b) ()).map (fun (zr : Unit) => (XE.exit 4, frm [(0, .sl 0), (1, .i .i64 vn), (2, .clo 262 []), (6, .i .i64 blockSize), (7, .i .i64 a)], [some (Ent.lst 3 (data.map QY))])) := by
 obtain ⟨rfl⟩ := H1
 rw [Qr]
 simp -dsimp only [↓evA, evB, Qj, Tryz.func276, Tryz.f276, Qv9, TP, TZ, Nat.reduceAdd, Nat.reduceMul, Nat.reduceBEq, Nat.reduceLeDiff, Nat.reduceLT]
 refine run_map (fun (zs : Unit) => (frm [(0, .sl 0), (1, .i .i64 vn), (2, .clo 262 []), (6, .i .i64 blockSize), (7, .i .i64 a), (8, .i .i64 b)], [some (Ent.lst 3 (data.map QY))])) (fun (zr : Unit) => (XE.exit 4, frm [(0, .sl 0), (1, .i .i64 vn), (2, .clo 262 []), (6, .i .i64 blockSize), (7, .i .i64 a)], [some (Ent.lst 3 (data.map QY))])) ?_ ()
 intro _
 simp -dsimp +contextual only [↓evA, eZ, Nat.reduceAdd, Nat.reduceMul, Nat.reduceBEq, Nat.reduceLeDiff, Nat.reduceLT, srt]
 try simp only [Q9, eY]
 all_goals rfl
theorem Jj (n : Nat) {R1} {data : List Bid} (vn : Int) (blockSize : Int) [H1 : EncL QY R1 data] : LP T (n + 3) 276 7 (frm [(0, .sl 0), (1, .i .i64 vn), (2, .clo 262 []), (6, .i .i64 blockSize)]) [some (Ent.lst 3 R1)] =
  (run (QC data vn) blockSize).map (fun (zr : Unit) => (XE.exit 2, frm [(0, .sl 0)], [some (Ent.lst 3 (data.map QY))])) := by
 obtain ⟨rfl⟩ := H1
 rw [Qr]
 simp -dsimp only [↓evA, evB, Qj, Tryz.func276, Tryz.f276, Qv9, TP, TZ, Nat.reduceAdd, Nat.reduceMul, Nat.reduceBEq, Nat.reduceLeDiff, Nat.reduceLT]
 refine run_map (fun (zs : Int) => (frm [(0, .sl 0), (1, .i .i64 vn), (2, .clo 262 []), (6, .i .i64 zs)], [some (Ent.lst 3 (data.map QY))])) (fun (zr : Unit) => (XE.exit 2, frm [(0, .sl 0)], [some (Ent.lst 3 (data.map QY))])) ?_ blockSize
 intro blockSize
 simp -dsimp +contextual only [↓evA, eZ, Nat.reduceAdd, Nat.reduceMul, Nat.reduceBEq, Nat.reduceLeDiff, Nat.reduceLT, srt, Jl]
 try simp only [QC, eY]
 all_goals rfl
theorem JV (n : Nat) {R1} {data : List Bid} (vn : Int) [H1 : EncL QY R1 data] : CA T (n + 8) 276 [some (Ent.lst 3 R1)] [.sl 0, .i .i64 vn, .clo 262 []] = (QW data vn).map fun r => (.tup [], [some (Ent.lst 3 (r.map QY))]) := by
 obtain ⟨rfl⟩ := H1
 rw [QdU]
 simp -dsimp +contextual only [↓evA, eZ, Nat.reduceAdd, Nat.reduceMul, Nat.reduceBEq, Nat.reduceLeDiff, Nat.reduceLT, Tryz.func276, Tryz.f276, Qv9, srt, Vk, Jk, Jj]
 try simp only [QW, eY]
 all_goals rfl
theorem JP (n : Nat) {R1} {x : List Bid} [H1 : EncL QY R1 x] : CA T (n + 9) 261 [some (Ent.lst 3 R1)] [.sl 0, .clo 262 []] = (QR x).map fun r => (.tup [], [some (Ent.lst 3 (r.map QY))]) := by
 obtain ⟨rfl⟩ := H1
 rw [QdU]
 simp -dsimp +contextual only [↓evA, eZ, Nat.reduceAdd, Nat.reduceMul, Nat.reduceBEq, Nat.reduceLeDiff, Nat.reduceLT, Tryz.func261, Tryz.f261, QOh, srt, JV]
 try simp only [QR, eY]
 all_goals rfl
theorem QhQ (n : Nat) {R1} {l : List Bid} [H1 : EncL QY R1 l] : CP T (n + 10) 226 [.imm 3 R1] = (ZR l).map fun r => .own 3 (r.map QY) := by
 obtain ⟨rfl⟩ := H1
 rw [Qd]
 simp -dsimp +contextual only [↓evA, eZ, Nat.reduceAdd, Nat.reduceMul, Nat.reduceBEq, Nat.reduceLeDiff, Nat.reduceLT, Tryz.func226, Tryz.f226, QK1, srt, QgF, JP]
 try simp only [ZR, eY]
 all_goals first | rfl | (simp +contextual only [evN] <;> rfl)
theorem Qmc (n : Nat) {R1} {l : List Bid} [H1 : EncL QY R1 l] : CP T (n + 11) 143 [.imm 3 R1] = (Qcz l).map fun r => .tup [.i .i64 r.1, .i .i64 r.2] := by
 obtain ⟨rfl⟩ := H1
 rw [Qd]
 simp -dsimp +contextual only [↓evA, eZ, Nat.reduceAdd, Nat.reduceMul, Nat.reduceBEq, Nat.reduceLeDiff, Nat.reduceLT, Tryz.func143, Tryz.f143, QNl, Qla, QhQ]
 try simp only [Qcz, eY]
 all_goals rfl
theorem Qew (n : Nat) (thing : Int) (bestxId : Int) (bestxWho : Int) (bestxThing : Int) (bestxAt : Int) (bestxState : Int) (found : Bool) {R1} {t10 : List Claim} (t11 : Int) (t12 : Int) [H1 : EncL Qc R1 t10] : LP T (n + 1) 123 4 (frm [(1, .i .i64 thing), (5, .ptr 0 0 0), (6, .b found), (10, .imm 5 R1), (11, .i .i64 t11), (12, .i .i64 t12)]) [some (Ent.box [.i .i64 bestxId, .i .i64 bestxWho, .i .i64 bestxThing, .i .i64 bestxAt, .i .i64 bestxState])] =
  (run (Q0 thing t10 t11) ((⟨bestxId, bestxWho, bestxThing, bestxAt, bestxState⟩ : Claim), found, t12)).map (fun (zr : Claim) => (XE.exit 0, frm [(5, .ptr 0 0 0)], [some (Ent.box [.i .i64 zr.Id, .i .i64 zr.Who, .i .i64 zr.Thing, .i .i64 zr.At, .i .i64 zr.State])])) := by
 obtain ⟨rfl⟩ := H1
 rw [Qr]
 simp -dsimp only [↓evA, evB, Qj, Tryz.func123, Tryz.f123, QCn, TP, TZ, Nat.reduceAdd, Nat.reduceMul, Nat.reduceBEq, Nat.reduceLeDiff, Nat.reduceLT]
 refine run_map (fun (zs : Claim × Bool × Int) => (frm [(1, .i .i64 thing), (5, .ptr 0 0 0), (6, .b zs.2.1), (10, .imm 5 (t10.map Qc)), (11, .i .i64 t11), (12, .i .i64 zs.2.2)], [some (Ent.box [.i .i64 zs.1.Id, .i .i64 zs.1.Who, .i .i64 zs.1.Thing, .i .i64 zs.1.At, .i .i64 zs.1.State])])) (fun (zr : Claim) => (XE.exit 0, frm [(5, .ptr 0 0 0)], [some (Ent.box [.i .i64 zr.Id, .i .i64 zr.Who, .i .i64 zr.Thing, .i .i64 zr.At, .i .i64 zr.State])])) ?_ ((⟨bestxId, bestxWho, bestxThing, bestxAt, bestxState⟩ : Claim), found, t12)
 rintro ⟨best, found, t12⟩
 simp -dsimp +contextual only [↓evA, eZ, Nat.reduceAdd, Nat.reduceMul, Nat.reduceBEq, Nat.reduceLeDiff, Nat.reduceLT]
 try simp only [Q0, eY]
 all_goals rfl
theorem Qgh (n : Nat) {R1} {l : List Claim} (thing : Int) [H1 : EncL Qc R1 l] : CP T (n + 2) 123 [.imm 5 R1, .i .i64 thing] = (J9 l thing).map fun r => .i .i64 r := by
 obtain ⟨rfl⟩ := H1
 rw [Qd]
 simp -dsimp +contextual only [↓evA, eZ, Nat.reduceAdd, Nat.reduceMul, Nat.reduceBEq, Nat.reduceLeDiff, Nat.reduceLT, Tryz.func123, Tryz.f123, QCn, Qew]
 try simp only [J9, eY]
 all_goals rfl
theorem QjC (n : Nat) (kind : Int) : CP T (n + 1) 271 [.i .i64 kind] = (Qcn kind).map fun r => .i .i64 r := by
 rw [Qd]
 simp -dsimp +contextual only [↓evA, eZ, Nat.reduceAdd, Nat.reduceMul, Nat.reduceBEq, Nat.reduceLeDiff, Nat.reduceLT, Tryz.func271, Tryz.f271, QM7]
 try simp only [Qcn, eY]
 all_goals rfl
theorem Qlj (n : Nat) (fxThingxId : Int) (fxThingxKind : Int) (fxThingxColour : Int) (fxThingxSize : Int) (fxThingxWorth : Int) (fxPlace : Int) (fxAt : Int) (fxFinder : Int) : CP T (n + 4) 250 [.agg [.i .i64 fxThingxId, .i .i64 fxThingxKind, .i .i64 fxThingxColour, .i .i64 fxThingxSize, .i .i64 fxThingxWorth, .i .i64 fxPlace, .i .i64 fxAt, .i .i64 fxFinder]] = (QcV (⟨⟨fxThingxId, fxThingxKind, fxThingxColour, fxThingxSize, fxThingxWorth⟩, fxPlace, fxAt, fxFinder⟩ : Find)).map fun r => .i .i64 r := by
 rw [Qd]
 simp -dsimp +contextual only [↓evA, eZ, Nat.reduceAdd, Nat.reduceMul, Nat.reduceBEq, Nat.reduceLeDiff, Nat.reduceLT, Tryz.func250, Tryz.f250, QOP, QdB, QjC]
 try simp only [QcV, eY]
 all_goals rfl
theorem QnV (n : Nat) (fxThingxId : Int) (fxThingxKind : Int) (fxThingxColour : Int) (fxThingxSize : Int) (fxThingxWorth : Int) (fxPlace : Int) (fxAt : Int) (fxFinder : Int) (now : Int) : CP T (n + 5) 214 [.agg [.i .i64 fxThingxId, .i .i64 fxThingxKind, .i .i64 fxThingxColour, .i .i64 fxThingxSize, .i .i64 fxThingxWorth, .i .i64 fxPlace, .i .i64 fxAt, .i .i64 fxFinder], .i .i64 now] = (Qca (⟨⟨fxThingxId, fxThingxKind, fxThingxColour, fxThingxSize, fxThingxWorth⟩, fxPlace, fxAt, fxFinder⟩ : Find) now).map fun r => .b r := by
 rw [Qd]
 simp -dsimp +contextual only [↓evA, eZ, Nat.reduceAdd, Nat.reduceMul, Nat.reduceBEq, Nat.reduceLeDiff, Nat.reduceLT, Tryz.func214, Tryz.f214, QM6, QdB, Qlj]
 try simp only [Qca, eY]
 all_goals rfl
theorem Qjg (n : Nat) (cxId : Int) (cxWho : Int) (cxThing : Int) (cxAt : Int) (cxState : Int) (c2xId : Int) (c2xKind : Int) (c2xColour : Int) (c2xSize : Int) (c2xWorth : Int) : CP T (n + 1) 215 [.agg [.i .i64 cxId, .i .i64 cxWho, .i .i64 cxThing, .i .i64 cxAt, .i .i64 cxState], .iptr 5 [[.i .i64 c2xId, .i .i64 c2xKind, .i .i64 c2xColour, .i .i64 c2xSize, .i .i64 c2xWorth]] 0 0] = (Qci (⟨cxId, cxWho, cxThing, cxAt, cxState⟩ : Claim) (⟨c2xId, c2xKind, c2xColour, c2xSize, c2xWorth⟩ : Thing)).map fun r => .b r := by
 rw [Qd]
 simp -dsimp +contextual only [↓evA, eZ, Nat.reduceAdd, Nat.reduceMul, Nat.reduceBEq, Nat.reduceLeDiff, Nat.reduceLT, Tryz.func215, Tryz.f215, QQl]
 try simp only [Qci, eY]
 all_goals rfl
theorem Zt (n : Nat) {R1} {s : List Claim} (fxId : Int) (fxKind : Int) (fxColour : Int) (fxSize : Int) (fxWorth : Int) (t7 : Int) (t8 : Int) [H1 : EncL Qc R1 s] : LP T (n + 2) 190 2 (frm [(0, .imm 5 R1), (1, .clo 215 [.iptr 5 [[.i .i64 fxId, .i .i64 fxKind, .i .i64 fxColour, .i .i64 fxSize, .i .i64 fxWorth]] 0 0]), (7, .i .i64 t7), (8, .i .i64 t8)]) [] =
  VC (run (QA s (⟨fxId, fxKind, fxColour, fxSize, fxWorth⟩ : Thing) t7) t8) (fun (zr : Int) => (XE.ret, frm [(4, .i .i64 zr)], [])) (fun (zr : Unit) => (XE.exit 0, frm [], [])) := by
 obtain ⟨rfl⟩ := H1
 rw [Qr]
 simp -dsimp only [↓evA, evB, Qj, Tryz.func190, Tryz.f190, QDE, TP, TZ, Nat.reduceAdd, Nat.reduceMul, Nat.reduceBEq, Nat.reduceLeDiff, Nat.reduceLT]
 refine run_map (fun (zs : Int) => (frm [(0, .imm 5 (s.map Qc)), (1, .clo 215 [.iptr 5 [[.i .i64 fxId, .i .i64 fxKind, .i .i64 fxColour, .i .i64 fxSize, .i .i64 fxWorth]] 0 0]), (7, .i .i64 t7), (8, .i .i64 zs)], [])) (evO (fun (zr : Int) => (XE.ret, frm [(4, .i .i64 zr)], [])) (fun (zr : Unit) => (XE.exit 0, frm [], []))) ?_ t8
 intro t8
 simp -dsimp +contextual only [↓evA, eZ, Nat.reduceAdd, Nat.reduceMul, Nat.reduceBEq, Nat.reduceLeDiff, Nat.reduceLT, Qjg]
 try simp only [QA, eY]
 all_goals rfl
end Go.Proofs.YtcdffihcfeajfaaGreat
