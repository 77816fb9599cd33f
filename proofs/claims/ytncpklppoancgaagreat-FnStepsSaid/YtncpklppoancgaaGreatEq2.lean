import Derived.Test.YtncpklppoancgaaGreatEq1
namespace Go.Proofs.YtncpklppoancgaaGreat
open Go Go.Proofs Go.Proofs.YtncpklppoancgaaGreat.Am
set_option maxHeartbeats 4000000
set_option linter.unusedVariables false
set_option linter.unusedSimpArgs false
set_option linter.defProp false
set_option maxRecDepth 100000
variable (n : Nat)
theorem Qj3 (k) {R1 l R2 f} [H1 : EncL QH R1 l] [H2 : EncR QH R2 f] : LP T (n + 1) 244 2 (frm [(0,.imm 8 R1),(3,.ptr 0 0 0),(6,.i .i64 k)]) [some (Ent.box R2)] =
  (run (Z0 l f) k).map (fun (zr : Int)=>(XE.exit 0,frm [(0,.imm 8 (l.map QH)),(3,.ptr 0 0 0),(6,.i .i64 zr)],[some (Ent.box (QH f))])):=by
 rcases H1,H2 with ⟨⟨rfl⟩,⟨rfl⟩⟩
 rw [QJ]
 simp -dsimp only [↓evA,evB,Qt,Tryz.func244,Tryz.f244,QEl,QrX,TP,TZ,Nat.reduceAdd,Nat.reduceMul,Nat.reduceBEq,Nat.reduceLeDiff,Nat.reduceLT]
 apply Qy k
 intro k
 simp -dsimp +contextual only [↓evA,eZ,Nat.reduceAdd,Nat.reduceMul,Nat.reduceBEq,Nat.reduceLeDiff,Nat.reduceLT]
 try simp only [Z0,eY]
 try simp only [List.contains_nil,Bool.not_false,Bool.and_true,VC,List.length_append,List.length_cons,List.length_nil,Nat.zero_add,Vy,VP]
 all_goals rfl
theorem Qnj {R1 l R2 f} [H1 : EncL QH R1 l] [H2 : EncR QH R2 f] : CP T (n + 6) 244 [.imm 8 R1,.agg R2] = (Qbb l f).map fun r=>.tup [.own 8 (r.1.map QH),.b r.2]:=by
 rcases H1,H2 with ⟨⟨rfl⟩,⟨rfl⟩⟩
 rw [Qh]
 simp -dsimp +contextual only [↓evA,eZ,Nat.reduceAdd,Nat.reduceMul,Nat.reduceBEq,Nat.reduceLeDiff,Nat.reduceLT,Tryz.func244,Tryz.f244,QEl,QrX,Qgf,Qj3]
 try simp only [Qbb,eY]
 try simp only [List.contains_nil,Bool.not_false,Bool.and_true,VC,List.length_append,List.length_cons,List.length_nil,Nat.zero_add,Vy,VP]
 all_goals first | rfl | (simp +contextual only [evN] <;> rfl)
theorem QhM (k) {R1 l R2 a} [H1 : EncL Ve R1 l] [H2 : EncR Ve R2 a] : LP T (n + 1) 245 2 (frm [(0,.imm 3 R1),(3,.ptr 0 0 0),(6,.i .i64 k)]) [some (Ent.box R2)] =
  (run (JW l a) k).map (fun (zr : Int)=>(XE.exit 0,frm [(0,.imm 3 (l.map Ve)),(3,.ptr 0 0 0),(6,.i .i64 zr)],[some (Ent.box (Ve a))])):=by
 rcases H1,H2 with ⟨⟨rfl⟩,⟨rfl⟩⟩
 rw [QJ]
 simp -dsimp only [↓evA,evB,Qt,Tryz.func245,Tryz.f245,QEG,QqR,TP,TZ,Nat.reduceAdd,Nat.reduceMul,Nat.reduceBEq,Nat.reduceLeDiff,Nat.reduceLT]
 apply Qy k
 intro k
 simp -dsimp +contextual only [↓evA,eZ,Nat.reduceAdd,Nat.reduceMul,Nat.reduceBEq,Nat.reduceLeDiff,Nat.reduceLT]
 try simp only [JW,eY]
 try simp only [List.contains_nil,Bool.not_false,Bool.and_true,VC,List.length_append,List.length_cons,List.length_nil,Nat.zero_add,Vy,VP]
 all_goals rfl
theorem Qkf {R1 l R2 a} [H1 : EncL Ve R1 l] [H2 : EncR Ve R2 a] : CP T (n + 6) 245 [.imm 3 R1,.agg R2] = (QaL l a).map fun r=>.tup [.own 3 (r.1.map QC),.b r.2]:=by
 rcases H1,H2 with ⟨⟨rfl⟩,⟨rfl⟩⟩
 rw [Qh]
 simp -dsimp +contextual only [↓evA,eZ,Nat.reduceAdd,Nat.reduceMul,Nat.reduceBEq,Nat.reduceLeDiff,Nat.reduceLT,Tryz.func245,Tryz.f245,QEG,QqR,QgD,Qe6,QhM]
 try simp only [QaL,eY]
 try simp only [List.contains_nil,Bool.not_false,Bool.and_true,VC,List.length_append,List.length_cons,List.length_nil,Nat.zero_add,Vy,VP]
 all_goals first | rfl | (simp +contextual only [evN] <;> rfl)
theorem QfQ (s k i) {R1 l} [H1 : EncL QX R1 l] : LP T (n + 1) 225 3 (frm [(0,.imm 3 R1),(1,.i .i64 s),(5,.i .i64 k),(6,.i .i64 i)]) [] =
  (run (Vm l s) (k,i)).map (fun (zr : Int)=>(XE.exit 0,frm [(0,.imm 3 (l.map QX)),(5,.i .i64 zr)],[])):=by
 obtain ⟨rfl⟩:=H1
 rw [QJ]
 simp -dsimp only [↓evA,evB,Qt,Tryz.func225,Tryz.f225,QEy,Qqj,TP,TZ,Nat.reduceAdd,Nat.reduceMul,Nat.reduceBEq,Nat.reduceLeDiff,Nat.reduceLT]
 apply V2 k i
 intro k i
 simp -dsimp +contextual only [↓evA,eZ,Nat.reduceAdd,Nat.reduceMul,Nat.reduceBEq,Nat.reduceLeDiff,Nat.reduceLT]
 try simp only [Vm,eY]
 all_goals rfl
theorem Qh4 (s) {R1 l} [H1 : EncL QX R1 l] : CP T (n + 2) 225 [.imm 3 R1,.i .i64 s] = (Qad l s).map fun r=>.i .i64 r:=by
 obtain ⟨rfl⟩:=H1
 rw [Qh]
 simp -dsimp +contextual only [↓evA,eZ,Nat.reduceAdd,Nat.reduceMul,Nat.reduceBEq,Nat.reduceLeDiff,Nat.reduceLT,Tryz.func225,Tryz.f225,QEy,Qqj,QfQ]
 try simp only [Qad,eY]
 all_goals rfl
theorem QiR (s i) {R1 a R2 o} [H1 : EncR QbY R1 a] [H2 : EncL QX R2 o] : LP T (n + 1) 165 6 (frm [(3,.ptr 0 0 0),(6,.sl 1),(7,.i .i64 s),(8,.i .i64 i)]) [some (Ent.box R1),some (Ent.lst 3 R2)] =
  (run (XN a s) (o,i)).map (fun (zr : (List Slot))=>(XE.exit 0,frm [(6,.sl 0)],[some (Ent.lst 3 (zr.map QX))])):=by
 rcases H1,H2 with ⟨⟨rfl⟩,⟨rfl⟩⟩
 rw [QJ]
 simp -dsimp only [↓evA,evB,Qt,Tryz.func165,Tryz.f165,QD0,QqE,TP,TZ,Nat.reduceAdd,Nat.reduceMul,Nat.reduceBEq,Nat.reduceLeDiff,Nat.reduceLT]
 apply V2 o i
 intro o i
 simp -dsimp +contextual only [↓evA,eZ,Nat.reduceAdd,Nat.reduceMul,Nat.reduceBEq,Nat.reduceLeDiff,Nat.reduceLT]
 try simp only [XN,eY]
 all_goals rfl
theorem QmF {R1 l R2 a} [H1 : EncL QX R1 l] [H2 : EncR QbY R2 a] : CP T (n + 4) 165 [.imm 3 R1,.agg R2] = (Qcg l a).map fun r=>.tup [.own 3 (r.1.map QX),.b r.2]:=by
 rcases H1,H2 with ⟨⟨rfl⟩,⟨rfl⟩⟩
 rw [Qh]
 simp -dsimp +contextual only [↓evA,eZ,Nat.reduceAdd,Nat.reduceMul,Nat.reduceBEq,Nat.reduceLeDiff,Nat.reduceLT,Tryz.func165,Tryz.f165,QD0,QqE,Qh4,Qed,QeR,QdT,QiR]
 try simp only [Qcg,eY]
 all_goals first | rfl | (simp +contextual only [evN] <;> rfl)
theorem Qhi {R1 l R2 a} [H1 : EncL Vj R1 l] [H2 : EncR Vj R2 a] : CP T (n + 8) 242 [.imm 5 R1,.agg R2] = (Qaa l a).map fun r=>.tup [.own 5 (r.1.map Vj),.b r.2]:=by
 rcases H1,H2 with ⟨⟨rfl⟩,⟨rfl⟩⟩
 rw [Qh]
 simp -dsimp +contextual only [↓evA,eZ,Nat.reduceAdd,Nat.reduceMul,Nat.reduceBEq,Nat.reduceLeDiff,Nat.reduceLT,Tryz.func242,Tryz.f242,QMQ,Quz,Qgn,QeC]
 try simp only [Qaa,eY]
 try simp only [List.contains_nil,Bool.not_false,Bool.and_true,VC,List.length_append,List.length_cons,List.length_nil,Nat.zero_add,Vy,VP]
 all_goals first | rfl | (simp +contextual only [evN] <;> rfl)
theorem Qb6 (oxNo oxNow o2) {R1 a R2 oxFinds R3 oxSecrets R4 oxSlots R5 oxClaims R6 oxTrials R7 oxChain R8 oxBook} [H1 : EncR Q5 R1 a] [H2 : EncL QH R2 oxFinds] [H3 : EncL QC R3 oxSecrets] [H4 : EncL QX R4 oxSlots] [H5 : EncL Qk R5 oxClaims] [H6 : EncL QL R6 oxTrials] [H7 : EncL Vj R7 oxChain] [H8 : EncL QZ R8 oxBook] : CM T (n + 12) 191 [some (Ent.lst 8 R2),some (Ent.lst 3 R3),some (Ent.lst 3 R4),some (Ent.lst 5 R5),some (Ent.lst 4 R6),some (Ent.lst 5 R7),some (Ent.lst 4 R8)] [.agg R1,.agg [.i .i64 oxNo,.sl 0,.sl 1,.sl 2,.sl 3,.sl 4,.sl 5,.sl 6,.i .i64 oxNow],.b o2] = (Qp a (⟨oxNo,oxFinds,oxSecrets,oxSlots,oxClaims,oxTrials,oxChain,oxBook,oxNow⟩ : House) o2).map fun r=>.tup [.agg (VW r.1),.b r.2]:=by
 rcases H1,H2,H3,H4,H5,H6,H7,H8 with ⟨⟨rfl⟩,⟨rfl⟩,⟨rfl⟩,⟨rfl⟩,⟨rfl⟩,⟨rfl⟩,⟨rfl⟩,⟨rfl⟩⟩
 rw [Qok]
 simp -dsimp +contextual (maxSteps:=100000000) only [↓evA,eZ,Nat.reduceAdd,Nat.reduceMul,Nat.reduceBEq,Nat.reduceLeDiff,Nat.reduceLT,Tryz.func191,Tryz.f191,QNI,Qvn,Qdz,JG]
 try simp only [Qp,eY]
 all_goals rfl
theorem Qll (s) {R1 a R2 f R3 m} [H1 : EncR Q5 R1 a] [H2 : EncR QH R2 f] [H3 : EncL V1 R3 m] : CP T (n + 13) 189 [.agg R1,.agg R2,.imm 2 R3,.i .i64 s] = (Jy a f m s).map fun r=>.tup [.agg (VW r.1),.b r.2]:=by
 rcases H1,H2,H3 with ⟨⟨rfl⟩,⟨rfl⟩,⟨rfl⟩⟩
 rw [Qh]
 simp -dsimp +contextual (maxSteps:=100000000) only [↓evA,eZ,Nat.reduceAdd,Nat.reduceMul,Nat.reduceBEq,Nat.reduceLeDiff,Nat.reduceLT,Tryz.func189,Tryz.f189,QMR,Qu1,srt,JG,Qnj,Qkf,QmF,Qhi,Qb6]
 try simp only [Jy,eY]
 all_goals rfl
theorem QiI (axNo axNow i) {R1 c R2 axFinds R3 axSecrets R4 axSlots R5 axClaims R6 axTrials R7 axChain R8 axBook} [H1 : EncR VS R1 c] [H2 : EncL QH R2 axFinds] [H3 : EncL QC R3 axSecrets] [H4 : EncL QX R4 axSlots] [H5 : EncL Qk R5 axClaims] [H6 : EncL QL R6 axTrials] [H7 : EncL Vj R7 axChain] [H8 : EncL QZ R8 axBook] : CA T (n + 14) 123 [some (Ent.box R1),some (Ent.lst 8 R2),some (Ent.lst 3 R3),some (Ent.lst 3 R4),some (Ent.lst 5 R5),some (Ent.lst 4 R6),some (Ent.lst 5 R7),some (Ent.lst 4 R8)] [.ptr 0 0 0,.agg [.i .i64 axNo,.sl 1,.sl 2,.sl 3,.sl 4,.sl 5,.sl 6,.sl 7,.i .i64 axNow],.i .i64 i] = (QaI c (⟨axNo,axFinds,axSecrets,axSlots,axClaims,axTrials,axChain,axBook,axNow⟩ : House) i).map fun r=>(.agg [.i .i64 r.2.No,.sl 8,.sl 9,.sl 10,.sl 11,.sl 12,.sl 13,.sl 14,.i .i64 r.2.Now],[some (Ent.box (VS r.1)),some (Ent.lst 8 (axFinds.map QH)),some (Ent.lst 3 (axSecrets.map QC)),some (Ent.lst 3 (axSlots.map QX)),some (Ent.lst 5 (axClaims.map Qk)),some (Ent.lst 4 (axTrials.map QL)),some (Ent.lst 5 (axChain.map Vj)),some (Ent.lst 4 (axBook.map QZ)),some (Ent.lst 8 (r.2.Finds.map QH)),some (Ent.lst 3 (r.2.Secrets.map QC)),some (Ent.lst 3 (r.2.Slots.map QX)),some (Ent.lst 5 (r.2.Claims.map Qk)),some (Ent.lst 4 (r.2.Trials.map QL)),some (Ent.lst 5 (r.2.Chain.map Vj)),some (Ent.lst 4 (r.2.Book.map QZ))]):=by
 rcases H1,H2,H3,H4,H5,H6,H7,H8 with ⟨⟨rfl⟩,⟨rfl⟩,⟨rfl⟩,⟨rfl⟩,⟨rfl⟩,⟨rfl⟩,⟨rfl⟩,⟨rfl⟩⟩
 rw [Qea]
 simp -dsimp +contextual (maxSteps:=100000000) only [↓evA,eZ,Nat.reduceAdd,Nat.reduceMul,Nat.reduceBEq,Nat.reduceLeDiff,Nat.reduceLT,Tryz.func123,Tryz.f123,QKg,Quq,srt,Qh7,QY,QfZ,J2,QnP,Qll]
 try simp only [QaI,eY]
 all_goals rfl
theorem Qii (k b i) {R1 l R2 a} [H1 : EncL Qk R1 l] [H2 : EncR Qk R2 a] : LP T (n + 1) 190 4 (frm [(0,.imm 5 R1),(3,.ptr 0 0 0),(6,.i .i64 k),(7,.b b),(8,.i .i64 i)]) [some (Ent.box R2)] =
  (run (Jr l a) (k,b,i)).map (fun (zr : Int × Bool)=>(XE.exit 0,frm [(0,.imm 5 (l.map Qk)),(3,.ptr 0 0 0),(6,.i .i64 zr.1),(7,.b zr.2)],[some (Ent.box (Qk a))])):=by
 rcases H1,H2 with ⟨⟨rfl⟩,⟨rfl⟩⟩
 rw [QJ]
 simp -dsimp only [↓evA,evB,Qt,Tryz.func190,Tryz.f190,QEw,Qre,TP,TZ,Nat.reduceAdd,Nat.reduceMul,Nat.reduceBEq,Nat.reduceLeDiff,Nat.reduceLT]
 apply QdY k b i
 intro k b i
 simp -dsimp +contextual only [↓evA,eZ,Nat.reduceAdd,Nat.reduceMul,Nat.reduceBEq,Nat.reduceLeDiff,Nat.reduceLT]
 try simp only [Jr,eY]
 try simp only [List.contains_nil,Bool.not_false,Bool.and_true,VC,List.length_append,List.length_cons,List.length_nil,Nat.zero_add,Vy,VP]
 all_goals rfl
theorem Qlo {R1 l R2 a} [H1 : EncL Qk R1 l] [H2 : EncR Qk R2 a] : CP T (n + 4) 190 [.imm 5 R1,.agg R2] = (Qar l a).map fun r=>.tup [.own 5 (r.1.map Qk),.b r.2]:=by
 rcases H1,H2 with ⟨⟨rfl⟩,⟨rfl⟩⟩
 rw [Qh]
 simp -dsimp +contextual only [↓evA,eZ,Nat.reduceAdd,Nat.reduceMul,Nat.reduceBEq,Nat.reduceLeDiff,Nat.reduceLT,Tryz.func190,Tryz.f190,QEw,Qre,QdN,Qii]
 try simp only [Qar,eY]
 try simp only [List.contains_nil,Bool.not_false,Bool.and_true,VC,List.length_append,List.length_cons,List.length_nil,Nat.zero_add,Vy,VP]
 all_goals first | rfl | (simp +contextual only [evN] <;> rfl)
theorem QhZ (i a oxNo oxNow o2 k) {R1 a2 R2 oxFinds R3 oxSecrets R4 oxSlots R5 oxClaims R6 oxTrials R7 oxChain R8 oxBook} [H1 : EncR Q5 R1 a2] [H2 : EncL QH R2 oxFinds] [H3 : EncL QC R3 oxSecrets] [H4 : EncL QX R4 oxSlots] [H5 : EncL Qk R5 oxClaims] [H6 : EncL QL R6 oxTrials] [H7 : EncL Vj R7 oxChain] [H8 : EncL QZ R8 oxBook] : LP T (n + 1) 124 5 (frm [(1,.i .i64 i),(3,.i .i64 a),(4,.ptr 0 0 0),(8,.ptr 1 0 0),(10,.ptr 2 0 0),(12,.b o2),(13,.i .i64 k)]) [some (Ent.box R1),some (Ent.box [.i .i64 0,.nil,.nil,.nil,.nil,.nil,.nil,.nil,.i .i64 0]),some (Ent.box [.i .i64 oxNo,.sl 3,.sl 4,.sl 5,.sl 6,.sl 7,.sl 8,.sl 9,.i .i64 oxNow]),some (Ent.lst 8 R2),some (Ent.lst 3 R3),some (Ent.lst 3 R4),some (Ent.lst 5 R5),some (Ent.lst 4 R6),some (Ent.lst 5 R7),some (Ent.lst 4 R8)] =
  (run (JX i a a2 (⟨oxNo,oxFinds,oxSecrets,oxSlots,oxClaims,oxTrials,oxChain,oxBook,oxNow⟩ : House) o2) k).map (fun (zr : Int)=>(XE.exit 0,frm [(1,.i .i64 i),(3,.i .i64 a),(4,.ptr 0 0 0),(8,.ptr 1 0 0),(10,.ptr 2 0 0),(12,.b o2),(13,.i .i64 zr)],[some (Ent.box (Q5 a2)),some (Ent.box [.i .i64 0,.nil,.nil,.nil,.nil,.nil,.nil,.nil,.i .i64 0]),some (Ent.box [.i .i64 oxNo,.sl 3,.sl 4,.sl 5,.sl 6,.sl 7,.sl 8,.sl 9,.i .i64 oxNow]),some (Ent.lst 8 (oxFinds.map QH)),some (Ent.lst 3 (oxSecrets.map QC)),some (Ent.lst 3 (oxSlots.map QX)),some (Ent.lst 5 (oxClaims.map Qk)),some (Ent.lst 4 (oxTrials.map QL)),some (Ent.lst 5 (oxChain.map Vj)),some (Ent.lst 4 (oxBook.map QZ))])):=by
 rcases H1,H2,H3,H4,H5,H6,H7,H8 with ⟨⟨rfl⟩,⟨rfl⟩,⟨rfl⟩,⟨rfl⟩,⟨rfl⟩,⟨rfl⟩,⟨rfl⟩,⟨rfl⟩⟩
 rw [QJ]
 simp -dsimp only [↓evA,evB,Qt,Tryz.func124,Tryz.f124,QDK,QqV,TP,TZ,Nat.reduceAdd,Nat.reduceMul,Nat.reduceBEq,Nat.reduceLeDiff,Nat.reduceLT]
 apply Qy k
 intro k
 simp -dsimp +contextual (maxSteps:=100000000) only [↓evA,eZ,Nat.reduceAdd,Nat.reduceMul,Nat.reduceBEq,Nat.reduceLeDiff,Nat.reduceLT,srt]
 try simp only [JX,eY]
 try simp only [List.contains_nil,Bool.not_false,Bool.and_true,VC,List.length_append,List.length_cons,List.length_nil,Nat.zero_add,Vy,VP]
 all_goals rfl
theorem Qkm (i w a2) {R1 a} [H1 : EncR Q5 R1 a] : CP T (n + 13) 124 [.agg R1,.i .i64 i,.i .i64 w,.i .i64 a2] = (Xh a i w a2).map fun r=>.tup [.agg (VW r.1),.b r.2]:=by
 obtain ⟨rfl⟩:=H1
 rw [Qh]
 simp -dsimp +contextual (maxSteps:=100000000) only [↓evA,eZ,Nat.reduceAdd,Nat.reduceMul,Nat.reduceBEq,Nat.reduceLeDiff,Nat.reduceLT,Tryz.func124,Tryz.f124,QDK,QqV,srt,JG,Qlo,QdT,Qb6,QhZ]
 try simp only [Xh,eY]
 try simp only [List.contains_nil,Bool.not_false,Bool.and_true,VC,List.length_append,List.length_cons,List.length_nil,Nat.zero_add,Vy,VP]
 all_goals rfl
theorem Qlv (a2) {R1 a} [H1 : EncR Q5 R1 a] : CP T (n + 13) 125 [.agg R1,.i .i64 a2] = (XX a a2).map fun r=>.tup [.agg (VW r.1),.b r.2]:=by
 obtain ⟨rfl⟩:=H1
 rw [Qh]
 simp -dsimp +contextual (maxSteps:=100000000) only [↓evA,eZ,Nat.reduceAdd,Nat.reduceMul,Nat.reduceBEq,Nat.reduceLeDiff,Nat.reduceLT,Tryz.func125,Tryz.f125,QNf,Qub,srt,JG,Xw,Qb6]
 try simp only [XX,eY]
 all_goals rfl
theorem Qgx (a k i) {R1 l} [H1 : EncL Qk R1 l] : LP T (n + 1) 194 3 (frm [(0,.imm 5 R1),(1,.i .i64 a),(5,.i .i64 k),(6,.i .i64 i)]) [] =
  (run (Vt l a) (k,i)).map (fun (zr : Int)=>(XE.exit 0,frm [(0,.imm 5 (l.map Qk)),(5,.i .i64 zr)],[])):=by
 obtain ⟨rfl⟩:=H1
 rw [QJ]
 simp -dsimp only [↓evA,evB,Qt,Tryz.func194,Tryz.f194,QED,QrU,TP,TZ,Nat.reduceAdd,Nat.reduceMul,Nat.reduceBEq,Nat.reduceLeDiff,Nat.reduceLT]
 apply V2 k i
 intro k i
 simp -dsimp +contextual only [↓evA,eZ,Nat.reduceAdd,Nat.reduceMul,Nat.reduceBEq,Nat.reduceLeDiff,Nat.reduceLT]
 try simp only [Vt,eY]
 all_goals rfl
theorem Qil (a) {R1 l} [H1 : EncL Qk R1 l] : CP T (n + 2) 194 [.imm 5 R1,.i .i64 a] = (Zz l a).map fun r=>.i .i64 r:=by
 obtain ⟨rfl⟩:=H1
 rw [Qh]
 simp -dsimp +contextual only [↓evA,eZ,Nat.reduceAdd,Nat.reduceMul,Nat.reduceBEq,Nat.reduceLeDiff,Nat.reduceLT,Tryz.func194,Tryz.f194,QED,QrU,Qgx]
 try simp only [Zz,eY]
 all_goals rfl
theorem QhN (i i2) {R1 l} [H1 : EncL Qk R1 l] : LP T (n + 1) 150 2 (frm [(0,.imm 5 R1),(1,.i .i64 i),(5,.i .i64 i2)]) [] =
  Jt (run (JV l i) i2) (fun (zr : Int)=>(XE.ret,frm [(4,.i .i64 zr)],[])) (fun (zr : Unit)=>(XE.exit 0,frm [],[])):=by
 obtain ⟨rfl⟩:=H1
 rw [QJ]
 simp -dsimp only [↓evA,evB,Qt,Tryz.func150,Tryz.f150,QDN,QqY,TP,TZ,Nat.reduceAdd,Nat.reduceMul,Nat.reduceBEq,Nat.reduceLeDiff,Nat.reduceLT]
 apply Qy i2
 intro i2
 simp -dsimp +contextual only [↓evA,eZ,Nat.reduceAdd,Nat.reduceMul,Nat.reduceBEq,Nat.reduceLeDiff,Nat.reduceLT]
 try simp only [JV,eY]
 all_goals rfl
theorem Qcb (i) {R1 l} [H1 : EncL Qk R1 l] : CP T (n + 2) 150 [.imm 5 R1,.i .i64 i] = (JK l i).map fun r=>.i .i64 r:=by
 obtain ⟨rfl⟩:=H1
 rw [Qh]
 simp -dsimp +contextual only [↓evA,eZ,Nat.reduceAdd,Nat.reduceMul,Nat.reduceBEq,Nat.reduceLeDiff,Nat.reduceLT,Tryz.func150,Tryz.f150,QDN,QqY,QhN]
 try simp only [JK,eY]
 all_goals rfl
theorem QjJ (s i) {R1 o} [H1 : EncL QX R1 o] : LP T (n + 1) 246 6 (frm [(6,.sl 0),(7,.i .i64 s),(8,.i .i64 i)]) [some (Ent.lst 3 R1)] =
  (run (XL s) (o,i)).map (fun (zr : (List Slot))=>(XE.exit 0,frm [(6,.sl 0)],[some (Ent.lst 3 (zr.map QX))])):=by
 obtain ⟨rfl⟩:=H1
 rw [QJ]
 simp -dsimp only [↓evA,evB,Qt,Tryz.func246,Tryz.f246,QEi,Qr3,TP,TZ,Nat.reduceAdd,Nat.reduceMul,Nat.reduceBEq,Nat.reduceLeDiff,Nat.reduceLT]
 apply V2 o i
 intro o i
 simp -dsimp +contextual only [↓evA,eZ,Nat.reduceAdd,Nat.reduceMul,Nat.reduceBEq,Nat.reduceLeDiff,Nat.reduceLT]
 try simp only [XL,eY]
 all_goals rfl
theorem QmY (a) {R1 l} [H1 : EncL QX R1 l] : CP T (n + 4) 246 [.imm 3 R1,.i .i64 a] = (Z9 l a).map fun r=>.tup [.own 3 (r.1.map QX),.b r.2]:=by
 obtain ⟨rfl⟩:=H1
 rw [Qh]
 simp -dsimp +contextual only [↓evA,eZ,Nat.reduceAdd,Nat.reduceMul,Nat.reduceBEq,Nat.reduceLeDiff,Nat.reduceLT,Tryz.func246,Tryz.f246,QEi,Qr3,QdT,Qed,QjJ]
 try simp only [Z9,eY]
 all_goals first | rfl | (simp +contextual only [evN] <;> rfl)
theorem QnL (a2 a3 w) {R1 a} [H1 : EncR Q5 R1 a] : CP T (n + 9) 196 [.agg R1,.i .i64 a2,.i .i64 a3,.i .i64 w] = (JH a a2 a3 w).map fun r=>.tup [.agg (VW r.1),.b r.2]:=by
 obtain ⟨rfl⟩:=H1
 rw [Qh]
 simp -dsimp +contextual (maxSteps:=100000000) only [↓evA,eZ,Nat.reduceAdd,Nat.reduceMul,Nat.reduceBEq,Nat.reduceLeDiff,Nat.reduceLT,Tryz.func196,Tryz.f196,QON,QuF,JG,QmY,Qhi]
 try simp only [JH,eY]
 all_goals rfl
theorem QlH (i s) {R1 l} [H1 : EncL Qk R1 l] : CP T (n + 4) 197 [.imm 5 R1,.i .i64 i,.i .i64 s] = (QcM l i s).map fun r=>.tup [.own 5 (r.1.map Qk),.b r.2]:=by
 obtain ⟨rfl⟩:=H1
 rw [Qh]
 simp -dsimp +contextual only [↓evA,eZ,Nat.reduceAdd,Nat.reduceMul,Nat.reduceBEq,Nat.reduceLeDiff,Nat.reduceLT,Tryz.func197,Tryz.f197,QQh,QuV,Qcb,QdN]
 try simp only [QcM,eY]
 all_goals first | rfl | (simp +contextual only [evN] <;> rfl)
theorem Qn1 (d) {R1 a} [H1 : EncR QbY R1 a] : CP T (n + 3) 199 [.agg R1,.i .i64 d] = (Qd1 a d).map fun r=>.i .i64 r:=by
 obtain ⟨rfl⟩:=H1
 rw [Qh]
 simp -dsimp +contextual only [↓evA,eZ,Nat.reduceAdd,Nat.reduceMul,Nat.reduceBEq,Nat.reduceLeDiff,Nat.reduceLT,Tryz.func199,Tryz.f199,QKP,QuN,QeR,Xw,QfZ]
 try simp only [Qd1,eY]
 all_goals rfl
theorem Qlt {R1 l R2 a} [H1 : EncL QZ R1 l] [H2 : EncR QZ R2 a] : CP T (n + 4) 187 [.imm 4 R1,.agg R2] = (Zn l a).map fun r=>.tup [.own 4 (r.1.map QZ),.b r.2]:=by
 rcases H1,H2 with ⟨⟨rfl⟩,⟨rfl⟩⟩
 rw [Qh]
 simp -dsimp +contextual only [↓evA,eZ,Nat.reduceAdd,Nat.reduceMul,Nat.reduceBEq,Nat.reduceLeDiff,Nat.reduceLT,Tryz.func187,Tryz.f187,QJg,QvF,Qe1]
 try simp only [Zn,eY]
 try simp only [List.contains_nil,Bool.not_false,Bool.and_true,VC,List.length_append,List.length_cons,List.length_nil,Nat.zero_add,Vy,VP]
 all_goals first | rfl | (simp +contextual only [evN] <;> rfl)
theorem QnZ (axNo axNow f a2 c) {R1 axFinds R2 axSecrets R3 axSlots R4 axClaims R5 axTrials R6 axChain R7 axBook} [H1 : EncL QH R1 axFinds] [H2 : EncL QC R2 axSecrets] [H3 : EncL QX R3 axSlots] [H4 : EncL Qk R4 axClaims] [H5 : EncL QL R5 axTrials] [H6 : EncL Vj R6 axChain] [H7 : EncL QZ R7 axBook] : CM T (n + 5) 198 [some (Ent.lst 8 R1),some (Ent.lst 3 R2),some (Ent.lst 3 R3),some (Ent.lst 5 R4),some (Ent.lst 4 R5),some (Ent.lst 5 R6),some (Ent.lst 4 R7)] [.agg [.i .i64 axNo,.sl 0,.sl 1,.sl 2,.sl 3,.sl 4,.sl 5,.sl 6,.i .i64 axNow],.i .i64 f,.i .i64 a2,.i .i64 c] = (JN (⟨axNo,axFinds,axSecrets,axSlots,axClaims,axTrials,axChain,axBook,axNow⟩ : House) f a2 c).map fun r=>.tup [.agg (VW r.1),.b r.2]:=by
 rcases H1,H2,H3,H4,H5,H6,H7 with ⟨⟨rfl⟩,⟨rfl⟩,⟨rfl⟩,⟨rfl⟩,⟨rfl⟩,⟨rfl⟩,⟨rfl⟩⟩
 rw [Qok]
 simp -dsimp +contextual (maxSteps:=100000000) only [↓evA,eZ,Nat.reduceAdd,Nat.reduceMul,Nat.reduceBEq,Nat.reduceLeDiff,Nat.reduceLT,Tryz.func198,Tryz.f198,QK7,QuH,Qlt]
 try simp only [JN,eY]
 all_goals rfl
theorem Qkr (a2) {R1 a} [H1 : EncR Q5 R1 a] : CP T (n + 13) 126 [.agg R1,.i .i64 a2] = (XC a a2).map fun r=>.tup [.agg (VW r.1),.b r.2]:=by
 obtain ⟨rfl⟩:=H1
 rw [Qh]
 simp -dsimp +contextual (maxSteps:=100000000) only [↓evA,eZ,Nat.reduceAdd,Nat.reduceMul,Nat.reduceBEq,Nat.reduceLeDiff,Nat.reduceLT,Tryz.func126,Tryz.f126,QPV,Qu7,srt,Qil,Qcf,Qdz,JG,Qcb,QnL,QlH,Qn1,QnZ,Qb6]
 try simp only [XC,eY]
 try simp only [List.contains_nil,Bool.not_false,Bool.and_true,VC,List.length_append,List.length_cons,List.length_nil,Nat.zero_add,Vy,VP]
 all_goals rfl
theorem QjN (c i) {R1 a R2 a2} [H1 : EncR Q5 R1 a] [H2 : EncR QL R2 a2] : LP T (n + 1) 151 2 (frm [(1,.i .i64 c),(2,.ptr 0 0 0),(4,.ptr 1 0 0),(6,.i .i64 i)]) [some (Ent.box R1),some (Ent.box R2)] =
  Jt (run (Z1 c a a2) i) (fun (zr : Trial × Bool)=>(XE.ret,frm [(4,.ptr 0 0 0),(5,.b zr.2)],[some (Ent.box (QL zr.1))])) (fun (zr : Unit)=>(XE.exit 0,frm [(4,.ptr 0 0 0)],[some (Ent.box (QL a2))])):=by
 rcases H1,H2 with ⟨⟨rfl⟩,⟨rfl⟩⟩
 rw [QJ]
 simp -dsimp only [↓evA,evB,Qt,Tryz.func151,Tryz.f151,QEN,Qqf,TP,TZ,Nat.reduceAdd,Nat.reduceMul,Nat.reduceBEq,Nat.reduceLeDiff,Nat.reduceLT]
 apply Qy i
 intro i
 simp -dsimp +contextual (maxSteps:=100000000) only [↓evA,eZ,Nat.reduceAdd,Nat.reduceMul,Nat.reduceBEq,Nat.reduceLeDiff,Nat.reduceLT]
 try simp only [Z1,eY]
 all_goals rfl
theorem Qnp (c) {R1 a} [H1 : EncR Q5 R1 a] : CP T (n + 2) 151 [.agg R1,.i .i64 c] = (Qdp a c).map fun r=>.tup [.agg (QL r.1),.b r.2]:=by
 obtain ⟨rfl⟩:=H1
 rw [Qh]
 simp -dsimp +contextual (maxSteps:=100000000) only [↓evA,eZ,Nat.reduceAdd,Nat.reduceMul,Nat.reduceBEq,Nat.reduceLeDiff,Nat.reduceLT,Tryz.func151,Tryz.f151,QEN,Qqf,QjN]
 try simp only [Qdp,eY]
 all_goals rfl
theorem Qif (c a) {R1 l} [H1 : EncL V1 R1 l] : CP T (n + 5) 214 [.imm 2 R1,.i .i64 c,.i .i64 a] = (QaQ l c a).map fun r=>.i .i64 r:=by
 obtain ⟨rfl⟩:=H1
 rw [Qh]
 simp -dsimp +contextual only [↓evA,eZ,Nat.reduceAdd,Nat.reduceMul,Nat.reduceBEq,Nat.reduceLeDiff,Nat.reduceLT,Tryz.func214,Tryz.f214,QRq,QtD,QcR,Xw,Qg2,QnA]
 try simp only [QaQ,eY]
 all_goals rfl
theorem Qej {R1 l R2 a} [H1 : EncL V1 R1 l] [H2 : EncR QL R2 a] : CP T (n + 6) 154 [.imm 2 R1,.agg R2] = (JR l a).map fun r=>.i .i64 r:=by
 rcases H1,H2 with ⟨⟨rfl⟩,⟨rfl⟩⟩
 rw [Qh]
 simp -dsimp +contextual only [↓evA,eZ,Nat.reduceAdd,Nat.reduceMul,Nat.reduceBEq,Nat.reduceLeDiff,Nat.reduceLT,Tryz.func154,Tryz.f154,QJf,QtZ,QdF,Qif]
 try simp only [JR,eY]
 all_goals rfl
theorem QiC (q i) {R1 l} [H1 : EncL V1 R1 l] : LP T (n + 1) 153 2 (frm [(0,.imm 2 R1),(1,.i .i64 q),(5,.i .i64 i)]) [] =
  Jt (run (Zs l q) i) (fun (zr : Int)=>(XE.ret,frm [(4,.i .i64 zr)],[])) (fun (zr : Unit)=>(XE.exit 0,frm [],[])):=by
 obtain ⟨rfl⟩:=H1
 rw [QJ]
 simp -dsimp only [↓evA,evB,Qt,Tryz.func153,Tryz.f153,QDW,QqF,TP,TZ,Nat.reduceAdd,Nat.reduceMul,Nat.reduceBEq,Nat.reduceLeDiff,Nat.reduceLT]
 apply Qy i
 intro i
 simp -dsimp +contextual only [↓evA,eZ,Nat.reduceAdd,Nat.reduceMul,Nat.reduceBEq,Nat.reduceLeDiff,Nat.reduceLT]
 try simp only [Zs,eY]
 all_goals rfl
theorem Qgm (q) {R1 l} [H1 : EncL V1 R1 l] : CP T (n + 2) 153 [.imm 2 R1,.i .i64 q] = (QbJ l q).map fun r=>.i .i64 r:=by
 obtain ⟨rfl⟩:=H1
 rw [Qh]
 simp -dsimp +contextual only [↓evA,eZ,Nat.reduceAdd,Nat.reduceMul,Nat.reduceBEq,Nat.reduceLeDiff,Nat.reduceLT,Tryz.func153,Tryz.f153,QDW,QqF,QiC]
 try simp only [QbJ,eY]
 all_goals rfl
theorem Qhc (c) {R1 a} [H1 : EncR Q5 R1 a] : CP T (n + 7) 80 [.agg R1,.i .i64 c] = (Qbj a c).map fun r=>.i .i64 r:=by
 obtain ⟨rfl⟩:=H1
 rw [Qh]
 simp -dsimp +contextual (maxSteps:=100000000) only [↓evA,eZ,Nat.reduceAdd,Nat.reduceMul,Nat.reduceBEq,Nat.reduceLeDiff,Nat.reduceLT,Tryz.func80,Tryz.f80,QUc,QCG,Qcb,Qnp,QeO,Qej,Qgm]
 try simp only [Qbj,eY]
 all_goals rfl
theorem QbK (a) {R1 c} [H1 : EncR VS R1 c] : CA T (n + 3) 38 [some (Ent.box R1)] [.ptr 0 0 0,.i .i64 a] = (JE c a).map fun r=>(.b r.2,[some (Ent.box (VS r.1))]):=by
 obtain ⟨rfl⟩:=H1
 rw [Qea]
 simp -dsimp +contextual (maxSteps:=100000000) only [↓evA,eZ,Nat.reduceAdd,Nat.reduceMul,Nat.reduceBEq,Nat.reduceLeDiff,Nat.reduceLT,Tryz.func38,Tryz.f38,QUv,QCD,srt,QY]
 try simp only [JE,eY]
 all_goals rfl
theorem Qj7 (a2) {R1 l R2 a} [H1 : EncL V1 R1 l] [H2 : EncR QL R2 a] : CP T (n + 7) 200 [.imm 2 R1,.agg R2,.i .i64 a2] = (Qbp l a a2).map fun r=>.tup [.agg (QL r.1),.b r.2]:=by
 rcases H1,H2 with ⟨⟨rfl⟩,⟨rfl⟩⟩
 rw [Qh]
 simp -dsimp +contextual only [↓evA,eZ,Nat.reduceAdd,Nat.reduceMul,Nat.reduceBEq,Nat.reduceLeDiff,Nat.reduceLT,Tryz.func200,Tryz.f200,QNV,QuK,Qej,Qgm]
 try simp only [Qbp,eY]
 all_goals rfl
theorem Qjb (c a2) {R1 a} [H1 : EncR Q5 R1 a] : CP T (n + 13) 127 [.agg R1,.i .i64 c,.i .i64 a2] = (Xp a c a2).map fun r=>.tup [.agg (VW r.1),.b r.2]:=by
 obtain ⟨rfl⟩:=H1
 rw [Qh]
 simp -dsimp +contextual (maxSteps:=100000000) only [↓evA,eZ,Nat.reduceAdd,Nat.reduceMul,Nat.reduceBEq,Nat.reduceLeDiff,Nat.reduceLT,Tryz.func127,Tryz.f127,QLU,Qt9,srt,JG,Qcb,Qdz,QeO,Qj7,QdF,Qb6]
 try simp only [Xp,eY]
 all_goals rfl
theorem QjL (axNo axNow i) {R1 c R2 axFinds R3 axSecrets R4 axSlots R5 axClaims R6 axTrials R7 axChain R8 axBook} [H1 : EncR VS R1 c] [H2 : EncL QH R2 axFinds] [H3 : EncL QC R3 axSecrets] [H4 : EncL QX R4 axSlots] [H5 : EncL Qk R5 axClaims] [H6 : EncL QL R6 axTrials] [H7 : EncL Vj R7 axChain] [H8 : EncL QZ R8 axBook] : LP T (n + 15) 67 4 (frm [(0,.ptr 0 0 0),(2,.ptr 1 0 0),(3,.ptr 2 0 0),(5,.i .i64 i)]) [some (Ent.box R1),some (Ent.box [.i .i64 0,.nil,.nil,.nil,.nil,.nil,.nil,.nil,.i .i64 0]),some (Ent.box [.i .i64 axNo,.sl 3,.sl 4,.sl 5,.sl 6,.sl 7,.sl 8,.sl 9,.i .i64 axNow]),some (Ent.lst 8 R2),some (Ent.lst 3 R3),some (Ent.lst 3 R4),some (Ent.lst 5 R5),some (Ent.lst 4 R6),some (Ent.lst 5 R7),some (Ent.lst 4 R8)] =
  (run Z2 (c,(⟨axNo,axFinds,axSecrets,axSlots,axClaims,axTrials,axChain,axBook,axNow⟩ : House),i)).map (fun (zr : l1Cur × House)=>(XE.exit 0,frm [(0,.ptr 0 0 0),(2,.ptr 1 0 0),(3,.ptr 2 0 0)],[some (Ent.box (VS zr.1)),some (Ent.box [.i .i64 0,.nil,.nil,.nil,.nil,.nil,.nil,.nil,.i .i64 0]),some (Ent.box [.i .i64 zr.2.No,.sl 3,.sl 4,.sl 5,.sl 6,.sl 7,.sl 8,.sl 9,.i .i64 zr.2.Now]),some (Ent.lst 8 (zr.2.Finds.map QH)),some (Ent.lst 3 (zr.2.Secrets.map QC)),some (Ent.lst 3 (zr.2.Slots.map QX)),some (Ent.lst 5 (zr.2.Claims.map Qk)),some (Ent.lst 4 (zr.2.Trials.map QL)),some (Ent.lst 5 (zr.2.Chain.map Vj)),some (Ent.lst 4 (zr.2.Book.map QZ))])):=by
 rcases H1,H2,H3,H4,H5,H6,H7,H8 with ⟨⟨rfl⟩,⟨rfl⟩,⟨rfl⟩,⟨rfl⟩,⟨rfl⟩,⟨rfl⟩,⟨rfl⟩,⟨rfl⟩⟩
 rw [QJ]
 simp -dsimp only [↓evA,evB,Qt,Tryz.func67,Tryz.f67,QIB,Qwm,TP,TZ,Nat.reduceAdd,Nat.reduceMul,Nat.reduceBEq,Nat.reduceLeDiff,Nat.reduceLT]
 refine run_map (fun (zs : l1Cur × House × Int)=>(frm [(0,.ptr 0 0 0),(2,.ptr 1 0 0),(3,.ptr 2 0 0),(5,.i .i64 zs.2.2)],[some (Ent.box (VS zs.1)),some (Ent.box [.i .i64 0,.nil,.nil,.nil,.nil,.nil,.nil,.nil,.i .i64 0]),some (Ent.box [.i .i64 zs.2.1.No,.sl 3,.sl 4,.sl 5,.sl 6,.sl 7,.sl 8,.sl 9,.i .i64 zs.2.1.Now]),some (Ent.lst 8 (zs.2.1.Finds.map QH)),some (Ent.lst 3 (zs.2.1.Secrets.map QC)),some (Ent.lst 3 (zs.2.1.Slots.map QX)),some (Ent.lst 5 (zs.2.1.Claims.map Qk)),some (Ent.lst 4 (zs.2.1.Trials.map QL)),some (Ent.lst 5 (zs.2.1.Chain.map Vj)),some (Ent.lst 4 (zs.2.1.Book.map QZ))])) _ ?_ (c,(⟨axNo,axFinds,axSecrets,axSlots,axClaims,axTrials,axChain,axBook,axNow⟩ : House),i)
 rintro ⟨c,a,i⟩
 simp -dsimp +contextual (maxSteps:=100000000) only [↓evA,eZ,Nat.reduceAdd,Nat.reduceMul,Nat.reduceBEq,Nat.reduceLeDiff,Nat.reduceLT,srt,QY,QiI]
 try simp only [Z2,eY]
 try simp only [List.contains_nil,Bool.not_false,Bool.and_true,VC,List.length_append,List.length_cons,List.length_nil,Nat.zero_add,Vy,VP]
 all_goals rfl
theorem Qi9 (axNo axNow i) {R1 c R2 axFinds R3 axSecrets R4 axSlots R5 axClaims R6 axTrials R7 axChain R8 axBook} [H1 : EncR VS R1 c] [H2 : EncL QH R2 axFinds] [H3 : EncL QC R3 axSecrets] [H4 : EncL QX R4 axSlots] [H5 : EncL Qk R5 axClaims] [H6 : EncL QL R6 axTrials] [H7 : EncL Vj R7 axChain] [H8 : EncL QZ R8 axBook] : LP T (n + 14) 67 8 (frm [(0,.ptr 0 0 0),(2,.ptr 1 0 0),(3,.ptr 2 0 0),(6,.i .i64 i)]) [some (Ent.box R1),some (Ent.box [.i .i64 0,.nil,.nil,.nil,.nil,.nil,.nil,.nil,.i .i64 0]),some (Ent.box [.i .i64 axNo,.sl 3,.sl 4,.sl 5,.sl 6,.sl 7,.sl 8,.sl 9,.i .i64 axNow]),some (Ent.lst 8 R2),some (Ent.lst 3 R3),some (Ent.lst 3 R4),some (Ent.lst 5 R5),some (Ent.lst 4 R6),some (Ent.lst 5 R7),some (Ent.lst 4 R8)] =
  (run Z3 (c,(⟨axNo,axFinds,axSecrets,axSlots,axClaims,axTrials,axChain,axBook,axNow⟩ : House),i)).map (fun (zr : l1Cur × House)=>(XE.exit 2,frm [(0,.ptr 0 0 0),(2,.ptr 1 0 0),(3,.ptr 2 0 0)],[some (Ent.box (VS zr.1)),some (Ent.box [.i .i64 0,.nil,.nil,.nil,.nil,.nil,.nil,.nil,.i .i64 0]),some (Ent.box [.i .i64 zr.2.No,.sl 3,.sl 4,.sl 5,.sl 6,.sl 7,.sl 8,.sl 9,.i .i64 zr.2.Now]),some (Ent.lst 8 (zr.2.Finds.map QH)),some (Ent.lst 3 (zr.2.Secrets.map QC)),some (Ent.lst 3 (zr.2.Slots.map QX)),some (Ent.lst 5 (zr.2.Claims.map Qk)),some (Ent.lst 4 (zr.2.Trials.map QL)),some (Ent.lst 5 (zr.2.Chain.map Vj)),some (Ent.lst 4 (zr.2.Book.map QZ))])):=by
 rcases H1,H2,H3,H4,H5,H6,H7,H8 with ⟨⟨rfl⟩,⟨rfl⟩,⟨rfl⟩,⟨rfl⟩,⟨rfl⟩,⟨rfl⟩,⟨rfl⟩,⟨rfl⟩⟩
 rw [QJ]
 simp -dsimp only [↓evA,evB,Qt,Tryz.func67,Tryz.f67,QIB,Qwm,TP,TZ,Nat.reduceAdd,Nat.reduceMul,Nat.reduceBEq,Nat.reduceLeDiff,Nat.reduceLT]
 refine run_map (fun (zs : l1Cur × House × Int)=>(frm [(0,.ptr 0 0 0),(2,.ptr 1 0 0),(3,.ptr 2 0 0),(6,.i .i64 zs.2.2)],[some (Ent.box (VS zs.1)),some (Ent.box [.i .i64 0,.nil,.nil,.nil,.nil,.nil,.nil,.nil,.i .i64 0]),some (Ent.box [.i .i64 zs.2.1.No,.sl 3,.sl 4,.sl 5,.sl 6,.sl 7,.sl 8,.sl 9,.i .i64 zs.2.1.Now]),some (Ent.lst 8 (zs.2.1.Finds.map QH)),some (Ent.lst 3 (zs.2.1.Secrets.map QC)),some (Ent.lst 3 (zs.2.1.Slots.map QX)),some (Ent.lst 5 (zs.2.1.Claims.map Qk)),some (Ent.lst 4 (zs.2.1.Trials.map QL)),some (Ent.lst 5 (zs.2.1.Chain.map Vj)),some (Ent.lst 4 (zs.2.1.Book.map QZ))])) _ ?_ (c,(⟨axNo,axFinds,axSecrets,axSlots,axClaims,axTrials,axChain,axBook,axNow⟩ : House),i)
 rintro ⟨c,a,i⟩
 simp -dsimp +contextual (maxSteps:=100000000) only [↓evA,eZ,Nat.reduceAdd,Nat.reduceMul,Nat.reduceBEq,Nat.reduceLeDiff,Nat.reduceLT,srt,QY,Qkm,J2,Qlv,Qkr,Qhc,QbK,Qjb]
 try simp only [Z3,eY]
 try simp only [List.contains_nil,Bool.not_false,Bool.and_true,VC,List.length_append,List.length_cons,List.length_nil,Nat.zero_add,Vy,VP]
 all_goals rfl
theorem ZN {R1 c} [H1 : EncR VS R1 c] : CA T (n + 16) 67 [some (Ent.box R1)] [.ptr 0 0 0] = (X3 c).map fun r=>(.agg [.i .i64 r.2.No,.sl 1,.sl 2,.sl 3,.sl 4,.sl 5,.sl 6,.sl 7,.i .i64 r.2.Now],[some (Ent.box (VS r.1)),some (Ent.lst 8 (r.2.Finds.map QH)),some (Ent.lst 3 (r.2.Secrets.map QC)),some (Ent.lst 3 (r.2.Slots.map QX)),some (Ent.lst 5 (r.2.Claims.map Qk)),some (Ent.lst 4 (r.2.Trials.map QL)),some (Ent.lst 5 (r.2.Chain.map Vj)),some (Ent.lst 4 (r.2.Book.map QZ))]):=by
 obtain ⟨rfl⟩:=H1
 rw [Qea]
 simp -dsimp +contextual (maxSteps:=100000000) only [↓evA,eZ,Nat.reduceAdd,Nat.reduceMul,Nat.reduceBEq,Nat.reduceLeDiff,Nat.reduceLT,Tryz.func67,Tryz.f67,QIB,Qwm,srt,QY,Qlp,Qlw,QjL,Qi9]
 try simp only [X3,eY]
 all_goals rfl
theorem QnT {R1 c} [H1 : EncR VS R1 c] : CA T (n + 7) 70 [some (Ent.box R1)] [.ptr 0 0 0] = (Qc5 c).map fun r=>(.sl 1,[some (Ent.box (VS r.1)),some (Ent.lst 2 (r.2.map V1))]):=by
 obtain ⟨rfl⟩:=H1
 rw [Qea]
 simp -dsimp +contextual (maxSteps:=100000000) only [↓evA,eZ,Nat.reduceAdd,Nat.reduceMul,Nat.reduceBEq,Nat.reduceLeDiff,Nat.reduceLT,Tryz.func70,Tryz.f70,QWW,QCg,srt,Qha,QY,J2]
 try simp only [Qc5,eY]
 all_goals rfl
theorem Qh2 {R1 c} [H1 : EncL Qdg R1 c] : CP T (n + 17) 19 [.imm 1 R1] = (Qap c).map fun r=>.tup [.agg (VW r.1),.agg (QH r.2.1),.own 2 (r.2.2.1.map V1),.i .i64 r.2.2.2]:=by
 obtain ⟨rfl⟩:=H1
 rw [Qh]
 simp -dsimp +contextual (maxSteps:=100000000) only [↓evA,eZ,Nat.reduceAdd,Nat.reduceMul,Nat.reduceBEq,Nat.reduceLeDiff,Nat.reduceLT,Tryz.func19,Tryz.f19,QRQ,QCN,srt,Qbh,ZN,QY,Qh7,QbK,QfZ,QnT,J2]
 try simp only [Qap,eY]
 try simp only [List.contains_nil,Bool.not_false,Bool.and_true,VC,List.length_append,List.length_cons,List.length_nil,Nat.zero_add,Vy,VP]
 all_goals first | rfl | (simp +contextual only [evN] <;> rfl)
theorem Qel {R1 s} [H1 : EncL QH R1 s] : CP T (n + 1) 130 [.imm 8 R1] = (X9 s).map fun r=>.own 8 (r.map QH):=by
 obtain ⟨rfl⟩:=H1
 rw [Qh]
 simp -dsimp +contextual only [↓evA,eZ,Nat.reduceAdd,Nat.reduceMul,Nat.reduceBEq,Nat.reduceLeDiff,Nat.reduceLT,Tryz.func130,Tryz.f130,QIZ,QtM]
 try simp only [X9,eY]
 all_goals first | rfl | (simp +contextual only [evN] <;> rfl)
theorem QcE {R1 s} [H1 : EncL V1 R1 s] : CP T (n + 1) 138 [.imm 2 R1] = (Xu s).map fun r=>.own 2 (r.map V1):=by
 obtain ⟨rfl⟩:=H1
 rw [Qh]
 simp -dsimp +contextual only [↓evA,eZ,Nat.reduceAdd,Nat.reduceMul,Nat.reduceBEq,Nat.reduceLeDiff,Nat.reduceLT,Tryz.func138,Tryz.f138,QQC,QtV]
 try simp only [Xu,eY]
 all_goals first | rfl | (simp +contextual only [evN] <;> rfl)
theorem Qgd (a2 a3) {R1 o R2 a} [H1 : EncL QC R1 o] [H2 : EncL Ve R2 a] : LP T (n + 2) 131 3 (frm [(3,.sl 0),(7,.imm 3 R2),(8,.i .i64 a2),(9,.i .i64 a3)]) [some (Ent.lst 3 R1)] =
  (run (Xg a a2) (o,a3)).map (fun (zr : (List Secret))=>(XE.exit 0,frm [(3,.sl 0)],[some (Ent.lst 3 (zr.map QC))])):=by
 rcases H1,H2 with ⟨⟨rfl⟩,⟨rfl⟩⟩
 rw [QJ]
 simp -dsimp only [↓evA,evB,Qt,Tryz.func131,Tryz.f131,QD9,QqI,TP,TZ,Nat.reduceAdd,Nat.reduceMul,Nat.reduceBEq,Nat.reduceLeDiff,Nat.reduceLT]
 apply V2 o a3
 intro o a3
 simp -dsimp +contextual only [↓evA,eZ,Nat.reduceAdd,Nat.reduceMul,Nat.reduceBEq,Nat.reduceLeDiff,Nat.reduceLT,QcE]
 try simp only [Xg,eY]
 all_goals rfl
theorem Qek {R1 l} [H1 : EncL Ve R1 l] : CP T (n + 3) 131 [.imm 3 R1] = (X8 l).map fun r=>.own 3 (r.map QC):=by
 obtain ⟨rfl⟩:=H1
 rw [Qh]
 simp -dsimp +contextual only [↓evA,eZ,Nat.reduceAdd,Nat.reduceMul,Nat.reduceBEq,Nat.reduceLeDiff,Nat.reduceLT,Tryz.func131,Tryz.f131,QD9,QqI,Qgd]
 try simp only [X8,eY]
 all_goals first | rfl | (simp +contextual only [evN] <;> rfl)
theorem QcD {R1 s} [H1 : EncL QX R1 s] : CP T (n + 1) 41 [.imm 3 R1] = (Xy s).map fun r=>.own 3 (r.map QX):=by
 obtain ⟨rfl⟩:=H1
 rw [Qh]
 simp -dsimp +contextual only [↓evA,eZ,Nat.reduceAdd,Nat.reduceMul,Nat.reduceBEq,Nat.reduceLeDiff,Nat.reduceLT,Tryz.func41,Tryz.f41,QSO,QC7]
 try simp only [Xy,eY]
 all_goals first | rfl | (simp +contextual only [evN] <;> rfl)
theorem Qb5 {R1 s} [H1 : EncL Qk R1 s] : CP T (n + 1) 132 [.imm 5 R1] = (VB s).map fun r=>.own 5 (r.map Qk):=by
 obtain ⟨rfl⟩:=H1
 rw [Qh]
 simp -dsimp +contextual only [↓evA,eZ,Nat.reduceAdd,Nat.reduceMul,Nat.reduceBEq,Nat.reduceLeDiff,Nat.reduceLT,Tryz.func132,Tryz.f132,QI4,Qux]
 try simp only [VB,eY]
 all_goals first | rfl | (simp +contextual only [evN] <;> rfl)
theorem QgW {R1 s} [H1 : EncL QL R1 s] : CP T (n + 1) 133 [.imm 4 R1] = (Qbi s).map fun r=>.own 4 (r.map QL):=by
 obtain ⟨rfl⟩:=H1
 rw [Qh]
 simp -dsimp +contextual only [↓evA,eZ,Nat.reduceAdd,Nat.reduceMul,Nat.reduceBEq,Nat.reduceLeDiff,Nat.reduceLT,Tryz.func133,Tryz.f133,QKL,QtW]
 try simp only [Qbi,eY]
 all_goals first | rfl | (simp +contextual only [evN] <;> rfl)
theorem Qen {R1 s} [H1 : EncL Vj R1 s] : CP T (n + 1) 134 [.imm 5 R1] = (Xe s).map fun r=>.own 5 (r.map Vj):=by
 obtain ⟨rfl⟩:=H1
 rw [Qh]
 simp -dsimp +contextual only [↓evA,eZ,Nat.reduceAdd,Nat.reduceMul,Nat.reduceBEq,Nat.reduceLeDiff,Nat.reduceLT,Tryz.func134,Tryz.f134,QJY,Qvk]
 try simp only [Xe,eY]
 all_goals first | rfl | (simp +contextual only [evN] <;> rfl)
theorem Qd8 {R1 s} [H1 : EncL QZ R1 s] : CP T (n + 1) 135 [.imm 4 R1] = (XQ s).map fun r=>.own 4 (r.map QZ):=by
 obtain ⟨rfl⟩:=H1
 rw [Qh]
 simp -dsimp +contextual only [↓evA,eZ,Nat.reduceAdd,Nat.reduceMul,Nat.reduceBEq,Nat.reduceLeDiff,Nat.reduceLT,Tryz.func135,Tryz.f135,QJS,QvE]
 try simp only [XQ,eY]
 all_goals first | rfl | (simp +contextual only [evN] <;> rfl)
theorem VI {R1 a} [H1 : EncR Q5 R1 a] : CP T (n + 4) 71 [.agg R1] = (Vi a).map fun r=>.agg (VW r):=by
 obtain ⟨rfl⟩:=H1
 rw [Qh]
 simp -dsimp +contextual (maxSteps:=100000000) only [↓evA,eZ,Nat.reduceAdd,Nat.reduceMul,Nat.reduceBEq,Nat.reduceLeDiff,Nat.reduceLT,Tryz.func71,Tryz.f71,QS9,QB4,Qel,Qek,QcD,Qb5,QgW,Qen,Qd8]
 try simp only [Vi,eY]
 all_goals rfl
theorem Qip (c) {R1 f} [H1 : EncR QH R1 f] : CP T (n + 1) 169 [.agg R1,.iptr 1 [[.i .i64 c]] 0 0] = (Qca f c).map fun r=>.b r:=by
 obtain ⟨rfl⟩:=H1
 rw [Qh]
 simp -dsimp +contextual only [↓evA,eZ,Nat.reduceAdd,Nat.reduceMul,Nat.reduceBEq,Nat.reduceLeDiff,Nat.reduceLT,Tryz.func169,Tryz.f169,QPm,Qu8]
 try simp only [Qca,eY]
 all_goals rfl
theorem QaO (f a a2) {R1 s} [H1 : EncL QH R1 s] : LP T (n + 2) 168 2 (frm [(0,.imm 8 R1),(1,.clo 169 [.iptr 1 [[.i .i64 f]] 0 0]),(7,.i .i64 a),(8,.i .i64 a2)]) [] =
  Jt (run (QP s f a) a2) (fun (zr : Int)=>(XE.ret,frm [(4,.i .i64 zr)],[])) (fun (zr : Unit)=>(XE.exit 0,frm [],[])):=by
 obtain ⟨rfl⟩:=H1
 rw [QJ]
 simp -dsimp only [↓evA,evB,Qt,Tryz.func168,Tryz.f168,QEz,Qq8,TP,TZ,Nat.reduceAdd,Nat.reduceMul,Nat.reduceBEq,Nat.reduceLeDiff,Nat.reduceLT]
 apply Qy a2
 intro a2
 simp -dsimp +contextual only [↓evA,eZ,Nat.reduceAdd,Nat.reduceMul,Nat.reduceBEq,Nat.reduceLeDiff,Nat.reduceLT,Qip]
 try simp only [QP,eY]
 all_goals rfl
theorem Qbo (c) {R1 s} [H1 : EncL QH R1 s] : CP T (n + 3) 168 [.imm 8 R1,.clo 169 [.iptr 1 [[.i .i64 c]] 0 0]] = (VG s c).map fun r=>.i .i64 r:=by
 obtain ⟨rfl⟩:=H1
 rw [Qh]
 simp -dsimp +contextual only [↓evA,eZ,Nat.reduceAdd,Nat.reduceMul,Nat.reduceBEq,Nat.reduceLeDiff,Nat.reduceLT,Tryz.func168,Tryz.f168,QEz,Qq8,QaO]
 try simp only [VG,eY]
 all_goals rfl
theorem QaX (i) {R1 l} [H1 : EncL QH R1 l] : CP T (n + 4) 103 [.imm 8 R1,.i .i64 i] = (X4 l i).map fun r=>.i .i64 r:=by
 obtain ⟨rfl⟩:=H1
 rw [Qh]
 simp -dsimp +contextual only [↓evA,eZ,Nat.reduceAdd,Nat.reduceMul,Nat.reduceBEq,Nat.reduceLeDiff,Nat.reduceLT,Tryz.func103,Tryz.f103,QQt,Qvh,Qbo]
 try simp only [X4,eY]
 all_goals rfl
theorem Q7 (a l a2) : CP T (n + 1) 42 [.i .i64 a,.i .i64 l,.i .i64 a2] = (Qe a l a2).map fun r=>.b r:=by
 rw [Qh]
 simp -dsimp +contextual only [↓evA,eZ,Nat.reduceAdd,Nat.reduceMul,Nat.reduceBEq,Nat.reduceLeDiff,Nat.reduceLT,Tryz.func42,Tryz.f42,QVj,QDg]
 try simp only [Qe,eY]
 all_goals rfl
theorem QeA {R1 a} [H1 : EncR QbY R1 a] : CP T (n + 2) 141 [.agg R1] = (Qai a).map fun r=>.b r:=by
 obtain ⟨rfl⟩:=H1
 rw [Qh]
 simp -dsimp +contextual only [↓evA,eZ,Nat.reduceAdd,Nat.reduceMul,Nat.reduceBEq,Nat.reduceLeDiff,Nat.reduceLT,Tryz.func141,Tryz.f141,QOu,Quj,Q7]
 try simp only [Qai,eY]
 all_goals rfl
theorem Qfp {R1 f} [H1 : EncR QH R1 f] : CP T (n + 3) 99 [.agg R1] = (Qa3 f).map fun r=>.b r:=by
 obtain ⟨rfl⟩:=H1
 rw [Qh]
 simp -dsimp +contextual only [↓evA,eZ,Nat.reduceAdd,Nat.reduceMul,Nat.reduceBEq,Nat.reduceLeDiff,Nat.reduceLT,Tryz.func99,Tryz.f99,QTo,QBX,QeA,Q7]
 try simp only [Qa3,eY]
 all_goals rfl
theorem Qim (a2 a3) {R1 l R2 a} [H1 : EncL QH R1 l] [H2 : EncL QH R2 a] : LP T (n + 4) 44 4 (frm [(0,.imm 8 R1),(8,.imm 8 R2),(9,.i .i64 a2),(10,.i .i64 a3)]) [] =
  Jt (run (ZE l a a2) a3) (fun (zr : Bool)=>(XE.ret,frm [(2,.b zr)],[])) (fun (zr : Unit)=>(XE.exit 0,frm [],[])):=by
 rcases H1,H2 with ⟨⟨rfl⟩,⟨rfl⟩⟩
 rw [QJ]
 simp -dsimp only [↓evA,evB,Qt,Tryz.func44,Tryz.f44,QQb,Qy2,TP,TZ,Nat.reduceAdd,Nat.reduceMul,Nat.reduceBEq,Nat.reduceLeDiff,Nat.reduceLT]
 apply Qy a3
 intro a3
 simp -dsimp +contextual only [↓evA,eZ,Nat.reduceAdd,Nat.reduceMul,Nat.reduceBEq,Nat.reduceLeDiff,Nat.reduceLT,Qfp]
 try simp only [ZE,eY]
 all_goals rfl
theorem Qgk {R1 l} [H1 : EncL QH R1 l] : CP T (n + 5) 44 [.imm 8 R1] = (Qav l).map fun r=>.b r:=by
 obtain ⟨rfl⟩:=H1
 rw [Qh]
 simp -dsimp +contextual only [↓evA,eZ,Nat.reduceAdd,Nat.reduceMul,Nat.reduceBEq,Nat.reduceLeDiff,Nat.reduceLT,Tryz.func44,Tryz.f44,QQb,Qy2,Qim]
 try simp only [Qav,eY]
 all_goals rfl
theorem QjR (a) {R1 l R2 f R3 o} [H1 : EncL QH R1 l] [H2 : EncR QH R2 f] [H3 : EncL QH R3 o] : LP T (n + 1) 72 5 (frm [(0,.imm 8 R1),(3,.ptr 0 0 0),(6,.sl 1),(7,.i .i64 a)]) [some (Ent.box R2),some (Ent.lst 8 R3)] =
  (run (QcV l f o) a).map (fun (zr : Int)=>(XE.exit 0,frm [(0,.imm 8 (l.map QH)),(3,.ptr 0 0 0),(6,.sl 1),(7,.i .i64 zr)],[some (Ent.box (QH f)),some (Ent.lst 8 (o.map QH))])):=by
 rcases H1,H2,H3 with ⟨⟨rfl⟩,⟨rfl⟩,⟨rfl⟩⟩
 rw [QJ]
 simp -dsimp only [↓evA,evB,Qt,Tryz.func72,Tryz.f72,QKz,QzL,TP,TZ,Nat.reduceAdd,Nat.reduceMul,Nat.reduceBEq,Nat.reduceLeDiff,Nat.reduceLT]
 apply Qy a
 intro a
 simp -dsimp +contextual only [↓evA,eZ,Nat.reduceAdd,Nat.reduceMul,Nat.reduceBEq,Nat.reduceLeDiff,Nat.reduceLT,srt]
 try simp only [QcV,eY]
 all_goals rfl
theorem Ql6 {R1 l R2 f} [H1 : EncL QH R1 l] [H2 : EncR QH R2 f] : CP T (n + 6) 72 [.imm 8 R1,.agg R2] = (Qdq l f).map fun r=>.tup [.own 8 (r.1.map QH),.b r.2]:=by
 rcases H1,H2 with ⟨⟨rfl⟩,⟨rfl⟩⟩
 rw [Qh]
 simp -dsimp +contextual only [↓evA,eZ,Nat.reduceAdd,Nat.reduceMul,Nat.reduceBEq,Nat.reduceLeDiff,Nat.reduceLT,Tryz.func72,Tryz.f72,QKz,QzL,srt,Qel,QaX,QAQ,Qgk,QjR]
 try simp only [Qdq,eY]
 all_goals first | rfl | (simp +contextual only [evN] <;> rfl)
theorem Qjl (c) {R1 a} [H1 : EncR Ve R1 a] : CP T (n + 1) 206 [.agg R1,.iptr 1 [[.i .i64 c]] 0 0] = (Qbn a c).map fun r=>.b r:=by
 obtain ⟨rfl⟩:=H1
 rw [Qh]
 simp -dsimp +contextual only [↓evA,eZ,Nat.reduceAdd,Nat.reduceMul,Nat.reduceBEq,Nat.reduceLeDiff,Nat.reduceLT,Tryz.func206,Tryz.f206,QLg,QvG]
 try simp only [Qbn,eY]
 all_goals rfl
theorem Qay (f a a2) {R1 s} [H1 : EncL Ve R1 s] : LP T (n + 2) 205 2 (frm [(0,.imm 3 R1),(1,.clo 206 [.iptr 1 [[.i .i64 f]] 0 0]),(7,.i .i64 a),(8,.i .i64 a2)]) [] =
  Jt (run (Qo s f a) a2) (fun (zr : Int)=>(XE.ret,frm [(4,.i .i64 zr)],[])) (fun (zr : Unit)=>(XE.exit 0,frm [],[])):=by
 obtain ⟨rfl⟩:=H1
 rw [QJ]
 simp -dsimp only [↓evA,evB,Qt,Tryz.func205,Tryz.f205,QEC,Qrh,TP,TZ,Nat.reduceAdd,Nat.reduceMul,Nat.reduceBEq,Nat.reduceLeDiff,Nat.reduceLT]
 apply Qy a2
 intro a2
 simp -dsimp +contextual only [↓evA,eZ,Nat.reduceAdd,Nat.reduceMul,Nat.reduceBEq,Nat.reduceLeDiff,Nat.reduceLT,Qjl]
 try simp only [Qo,eY]
 all_goals rfl
theorem Qba (c) {R1 s} [H1 : EncL Ve R1 s] : CP T (n + 3) 205 [.imm 3 R1,.clo 206 [.iptr 1 [[.i .i64 c]] 0 0]] = (Vc s c).map fun r=>.i .i64 r:=by
 obtain ⟨rfl⟩:=H1
 rw [Qh]
 simp -dsimp +contextual only [↓evA,eZ,Nat.reduceAdd,Nat.reduceMul,Nat.reduceBEq,Nat.reduceLeDiff,Nat.reduceLT,Tryz.func205,Tryz.f205,QEC,Qrh,Qay]
 try simp only [Vc,eY]
 all_goals rfl
theorem Qgj (a) {R1 l} [H1 : EncL Ve R1 l] : CP T (n + 4) 137 [.imm 3 R1,.i .i64 a] = (Zk l a).map fun r=>.i .i64 r:=by
 obtain ⟨rfl⟩:=H1
 rw [Qh]
 simp -dsimp +contextual only [↓evA,eZ,Nat.reduceAdd,Nat.reduceMul,Nat.reduceBEq,Nat.reduceLeDiff,Nat.reduceLT,Tryz.func137,Tryz.f137,QO4,QtU,Qba]
 try simp only [Zk,eY]
 all_goals rfl
theorem QiN (a2 a3) {R1 l R2 a} [H1 : EncL V1 R1 l] [H2 : EncL V1 R2 a] : LP T (n + 2) 100 4 (frm [(0,.imm 2 R1),(8,.imm 2 R2),(9,.i .i64 a2),(10,.i .i64 a3)]) [] =
  Jt (run (ZA l a a2) a3) (fun (zr : Bool)=>(XE.ret,frm [(2,.b zr)],[])) (fun (zr : Unit)=>(XE.exit 0,frm [],[])):=by
 rcases H1,H2 with ⟨⟨rfl⟩,⟨rfl⟩⟩
 rw [QJ]
 simp -dsimp only [↓evA,evB,Qt,Tryz.func100,Tryz.f100,QDJ,QqO,TP,TZ,Nat.reduceAdd,Nat.reduceMul,Nat.reduceBEq,Nat.reduceLeDiff,Nat.reduceLT]
 apply Qy a3
 intro a3
 simp -dsimp +contextual only [↓evA,eZ,Nat.reduceAdd,Nat.reduceMul,Nat.reduceBEq,Nat.reduceLeDiff,Nat.reduceLT,Q7]
 try simp only [ZA,eY]
 all_goals rfl
end Go.Proofs.YtncpklppoancgaaGreat
