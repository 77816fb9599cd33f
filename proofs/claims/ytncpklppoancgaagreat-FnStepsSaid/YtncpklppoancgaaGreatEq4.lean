import Derived.Test.YtncpklppoancgaaGreatEq3
namespace Go.Proofs.YtncpklppoancgaaGreat
open Go Go.Proofs Go.Proofs.YtncpklppoancgaaGreat.Am
set_option maxHeartbeats 4000000
set_option linter.unusedVariables false
set_option linter.unusedSimpArgs false
set_option linter.defProp false
set_option maxRecDepth 100000
variable (n : Nat)
theorem Qgw {R1 c} [H1 : EncL Qdg R1 c] : CP T (n + 17) 23 [.imm 1 R1] = (Zb c).map fun r=>.tup [.agg (VW r.1),.i .i64 r.2.1,.i .i64 r.2.2]:=by
 obtain ⟨rfl⟩:=H1
 rw [Qh]
 simp -dsimp +contextual (maxSteps:=100000000) only [↓evA,eZ,Nat.reduceAdd,Nat.reduceMul,Nat.reduceBEq,Nat.reduceLeDiff,Nat.reduceLT,Tryz.func23,Tryz.f23,QVd,QCa,srt,Qbh,ZN,QY,Qhc,QbK]
 try simp only [Zb,eY]
 all_goals rfl
theorem Qix (c a) {R1 l} [H1 : EncL V1 R1 l] : CP T (n + 6) 215 [.imm 2 R1,.i .i64 c,.i .i64 a] = (QaN l c a).map fun r=>.i .i64 r:=by
 obtain ⟨rfl⟩:=H1
 rw [Qh]
 simp -dsimp +contextual only [↓evA,eZ,Nat.reduceAdd,Nat.reduceMul,Nat.reduceBEq,Nat.reduceLeDiff,Nat.reduceLT,Tryz.func215,Tryz.f215,QMX,QvH,Qec,Q7,Qk2]
 try simp only [QaN,eY]
 all_goals rfl
theorem QhK {R1 l R2 a} [H1 : EncL V1 R1 l] [H2 : EncR QL R2 a] : CP T (n + 7) 155 [.imm 2 R1,.agg R2] = (Qac l a).map fun r=>.i .i64 r:=by
 rcases H1,H2 with ⟨⟨rfl⟩,⟨rfl⟩⟩
 rw [Qh]
 simp -dsimp +contextual only [↓evA,eZ,Nat.reduceAdd,Nat.reduceMul,Nat.reduceBEq,Nat.reduceLeDiff,Nat.reduceLT,Tryz.func155,Tryz.f155,QLY,Qvv,Qds,Qix]
 try simp only [Qac,eY]
 all_goals rfl
theorem Qiy (q a2 a3) {R1 a} [H1 : EncL V1 R1 a] : LP T (n + 1) 156 2 (frm [(1,.i .i64 q),(7,.imm 2 R1),(8,.i .i64 a2),(9,.i .i64 a3)]) [] =
  Jt (run (ZB q a a2) a3) (fun (zr : Int)=>(XE.ret,frm [(4,.i .i64 zr)],[])) (fun (zr : Unit)=>(XE.exit 0,frm [],[])):=by
 obtain ⟨rfl⟩:=H1
 rw [QJ]
 simp -dsimp only [↓evA,evB,Qt,Tryz.func156,Tryz.f156,QEQ,Qry,TP,TZ,Nat.reduceAdd,Nat.reduceMul,Nat.reduceBEq,Nat.reduceLeDiff,Nat.reduceLT]
 apply Qy a3
 intro a3
 simp -dsimp +contextual only [↓evA,eZ,Nat.reduceAdd,Nat.reduceMul,Nat.reduceBEq,Nat.reduceLeDiff,Nat.reduceLT]
 try simp only [ZB,eY]
 all_goals rfl
theorem Qly (q) {R1 l} [H1 : EncL V1 R1 l] : CP T (n + 2) 156 [.imm 2 R1,.i .i64 q] = (QcJ l q).map fun r=>.i .i64 r:=by
 obtain ⟨rfl⟩:=H1
 rw [Qh]
 simp -dsimp +contextual only [↓evA,eZ,Nat.reduceAdd,Nat.reduceMul,Nat.reduceBEq,Nat.reduceLeDiff,Nat.reduceLT,Tryz.func156,Tryz.f156,QEQ,Qry,Qiy]
 try simp only [QcJ,eY]
 all_goals rfl
theorem QjO (a2) {R1 l R2 a} [H1 : EncL V1 R1 l] [H2 : EncR QL R2 a] : CP T (n + 8) 82 [.imm 2 R1,.agg R2,.i .i64 a2] = (Qbz l a a2).map fun r=>.tup [.agg (QL r.1),.b r.2]:=by
 rcases H1,H2 with ⟨⟨rfl⟩,⟨rfl⟩⟩
 rw [Qh]
 simp -dsimp +contextual only [↓evA,eZ,Nat.reduceAdd,Nat.reduceMul,Nat.reduceBEq,Nat.reduceLeDiff,Nat.reduceLT,Tryz.func82,Tryz.f82,QVV,QDD,QhK,Qly]
 try simp only [Qbz,eY]
 all_goals rfl
theorem Qgq (i s) {R1 l} [H1 : EncL Qk R1 l] : CP T (n + 5) 84 [.imm 5 R1,.i .i64 i,.i .i64 s] = (Jv l i s).map fun r=>.tup [.own 5 (r.1.map Qk),.b r.2]:=by
 obtain ⟨rfl⟩:=H1
 rw [Qh]
 simp -dsimp +contextual only [↓evA,eZ,Nat.reduceAdd,Nat.reduceMul,Nat.reduceBEq,Nat.reduceLeDiff,Nat.reduceLT,Tryz.func84,Tryz.f84,QSt,QCA,Qb5,QaY,QdL]
 try simp only [Jv,eY]
 all_goals first | rfl | (simp +contextual only [evN] <;> rfl)
theorem Qi6 (c a2) {R1 a} [H1 : EncR Q5 R1 a] : CP T (n + 13) 24 [.agg R1,.i .i64 c,.i .i64 a2] = (QbE a c a2).map fun r=>.tup [.agg (VW r.1),.b r.2]:=by
 obtain ⟨rfl⟩:=H1
 rw [Qh]
 simp -dsimp +contextual (maxSteps:=100000000) only [↓evA,eZ,Nat.reduceAdd,Nat.reduceMul,Nat.reduceBEq,Nat.reduceLeDiff,Nat.reduceLT,Tryz.func24,Tryz.f24,QRZ,QB6,srt,VI,QaY,Qr,Qg4,QjO,Qds,Qgq,QaT]
 try simp only [QbE,eY]
 all_goals rfl
theorem Qhb {R1 c} [H1 : EncL Qdg R1 c] : CP T (n + 17) 25 [.imm 1 R1] = (ZH c).map fun r=>.tup [.agg (VW r.1),.i .i64 r.2]:=by
 obtain ⟨rfl⟩:=H1
 rw [Qh]
 simp -dsimp +contextual (maxSteps:=100000000) only [↓evA,eZ,Nat.reduceAdd,Nat.reduceMul,Nat.reduceBEq,Nat.reduceLeDiff,Nat.reduceLT,Tryz.func25,Tryz.f25,QSy,QAx,srt,Qbh,ZN,QY]
 try simp only [ZH,eY]
 try simp only [List.contains_nil,Bool.not_false,Bool.and_true,VC,List.length_append,List.length_cons,List.length_nil,Nat.zero_add,Vy,VP]
 all_goals rfl
theorem Qfl (a2) {R1 a} [H1 : EncR Q5 R1 a] : CP T (n + 12) 85 [.agg R1,.i .i64 a2] = (Qa0 a a2).map fun r=>.tup [.agg (QH r.1),.b r.2]:=by
 obtain ⟨rfl⟩:=H1
 rw [Qh]
 simp -dsimp +contextual (maxSteps:=100000000) only [↓evA,eZ,Nat.reduceAdd,Nat.reduceMul,Nat.reduceBEq,Nat.reduceLeDiff,Nat.reduceLT,Tryz.func85,Tryz.f85,QTK,QBf,QaX,Qr,J9]
 try simp only [Qa0,eY]
 all_goals rfl
theorem Qgu (a f a3 a4) {R1 b R2 a2} [H1 : EncR Qk R1 b] [H2 : EncL Qk R2 a2] : LP T (n + 1) 86 4 (frm [(1,.i .i64 a),(5,.ptr 0 0 0),(6,.b f),(10,.imm 5 R2),(11,.i .i64 a3),(12,.i .i64 a4)]) [some (Ent.box R1)] =
  (run (Vu a a2 a3) (b,f,a4)).map (fun (zr : Claim)=>(XE.exit 0,frm [(5,.ptr 0 0 0)],[some (Ent.box (Qk zr))])):=by
 rcases H1,H2 with ⟨⟨rfl⟩,⟨rfl⟩⟩
 rw [QJ]
 simp -dsimp only [↓evA,evB,Qt,Tryz.func86,Tryz.f86,QJO,Qyv,TP,TZ,Nat.reduceAdd,Nat.reduceMul,Nat.reduceBEq,Nat.reduceLeDiff,Nat.reduceLT]
 apply QdY b f a4
 intro b f a4
 simp -dsimp +contextual only [↓evA,eZ,Nat.reduceAdd,Nat.reduceMul,Nat.reduceBEq,Nat.reduceLeDiff,Nat.reduceLT]
 try simp only [Vu,eY]
 all_goals rfl
theorem QeJ (a) {R1 l} [H1 : EncL Qk R1 l] : CP T (n + 2) 86 [.imm 5 R1,.i .i64 a] = (Zr l a).map fun r=>.i .i64 r:=by
 obtain ⟨rfl⟩:=H1
 rw [Qh]
 simp -dsimp +contextual only [↓evA,eZ,Nat.reduceAdd,Nat.reduceMul,Nat.reduceBEq,Nat.reduceLeDiff,Nat.reduceLT,Tryz.func86,Tryz.f86,QJO,Qyv,Qgu]
 try simp only [Zr,eY]
 all_goals rfl
theorem Qm0 (a) {R1 l} [H1 : EncL QX R1 l] : CP T (n + 8) 158 [.imm 3 R1,.i .i64 a] = (Qcp l a).map fun r=>.tup [.own 3 (r.1.map QX),.b r.2]:=by
 obtain ⟨rfl⟩:=H1
 rw [Qh]
 simp -dsimp +contextual only [↓evA,eZ,Nat.reduceAdd,Nat.reduceMul,Nat.reduceBEq,Nat.reduceLeDiff,Nat.reduceLT,Tryz.func158,Tryz.f158,QMD,Qu6,QcD,J9,Qeh]
 try simp only [Qcp,eY]
 all_goals first | rfl | (simp +contextual only [evN] <;> rfl)
theorem Qfj (a2 a3 w) {R1 a} [H1 : EncR Q5 R1 a] : CP T (n + 10) 87 [.agg R1,.i .i64 a2,.i .i64 a3,.i .i64 w] = (Qae a a2 a3 w).map fun r=>.tup [.agg (VW r.1),.b r.2]:=by
 obtain ⟨rfl⟩:=H1
 rw [Qh]
 simp -dsimp +contextual (maxSteps:=100000000) only [↓evA,eZ,Nat.reduceAdd,Nat.reduceMul,Nat.reduceBEq,Nat.reduceLeDiff,Nat.reduceLT,Tryz.func87,Tryz.f87,QWe,QBm,VI,Qm0,QgE]
 try simp only [Qae,eY]
 all_goals rfl
theorem QnU (d) {R1 a} [H1 : EncR QbY R1 a] : CP T (n + 3) 88 [.agg R1,.i .i64 d] = (Qd9 a d).map fun r=>.i .i64 r:=by
 obtain ⟨rfl⟩:=H1
 rw [Qh]
 simp -dsimp +contextual only [↓evA,eZ,Nat.reduceAdd,Nat.reduceMul,Nat.reduceBEq,Nat.reduceLeDiff,Nat.reduceLT,Tryz.func88,Tryz.f88,QRS,QBZ,QeA,Q7]
 try simp only [Qd9,eY]
 all_goals rfl
theorem Qge {R1 l R2 a} [H1 : EncL QZ R1 l] [H2 : EncR QZ R2 a] : CP T (n + 4) 89 [.imm 4 R1,.agg R2] = (Zm l a).map fun r=>.tup [.own 4 (r.1.map QZ),.b r.2]:=by
 rcases H1,H2 with ⟨⟨rfl⟩,⟨rfl⟩⟩
 rw [Qh]
 simp -dsimp +contextual only [↓evA,eZ,Nat.reduceAdd,Nat.reduceMul,Nat.reduceBEq,Nat.reduceLeDiff,Nat.reduceLT,Tryz.func89,Tryz.f89,QRR,QCE,Qd8,QbS]
 try simp only [Zm,eY]
 try simp only [List.contains_nil,Bool.not_false,Bool.and_true,VC,List.length_append,List.length_cons,List.length_nil,Nat.zero_add,Vy,VP]
 all_goals first | rfl | (simp +contextual only [evN] <;> rfl)
theorem QkT (a2) {R1 a} [H1 : EncR Q5 R1 a] : CP T (n + 13) 26 [.agg R1,.i .i64 a2] = (QbZ a a2).map fun r=>.tup [.agg (VW r.1),.b r.2]:=by
 obtain ⟨rfl⟩:=H1
 rw [Qh]
 simp -dsimp +contextual (maxSteps:=100000000) only [↓evA,eZ,Nat.reduceAdd,Nat.reduceMul,Nat.reduceBEq,Nat.reduceLeDiff,Nat.reduceLT,Tryz.func26,Tryz.f26,QVN,QBW,srt,Qfl,QeJ,VI,QaY,Qfj,Qgq,QnU,Qge,QaT]
 try simp only [QbZ,eY]
 all_goals rfl
theorem Qnn (s w c) : CP T (n + 5) 159 [.i .i64 s,.i .i64 w,.i .i64 c] = (Qdt s w c).map fun r=>.i .i64 r:=by
 rw [Qh]
 simp -dsimp +contextual only [↓evA,eZ,Nat.reduceAdd,Nat.reduceMul,Nat.reduceBEq,Nat.reduceLeDiff,Nat.reduceLT,Tryz.func159,Tryz.f159,QIV,Qvq,Qg2]
 try simp only [Qdt,eY]
 all_goals rfl
theorem QkB (i) {R1 c R2 l} [H1 : EncR VS R1 c] [H2 : EncL ZV R2 l] : LP T (n + 6) 90 3 (frm [(0,.ptr 0 0 0),(3,.sl 1),(4,.i .i64 i)]) [some (Ent.box R1),some (Ent.lst 3 R2)] =
  (run QaR (c,l,i)).map (fun (zr : l1Cur × (List Bid))=>(XE.exit 0,frm [(0,.ptr 0 0 0),(3,.sl 1)],[some (Ent.box (VS zr.1)),some (Ent.lst 3 (zr.2.map ZV))])):=by
 rcases H1,H2 with ⟨⟨rfl⟩,⟨rfl⟩⟩
 rw [QJ]
 simp -dsimp only [↓evA,evB,Qt,Tryz.func90,Tryz.f90,QKA,QxU,TP,TZ,Nat.reduceAdd,Nat.reduceMul,Nat.reduceBEq,Nat.reduceLeDiff,Nat.reduceLT]
 apply QdY c l i
 intro c l i
 simp -dsimp +contextual only [↓evA,eZ,Nat.reduceAdd,Nat.reduceMul,Nat.reduceBEq,Nat.reduceLeDiff,Nat.reduceLT,srt,QY,Qnn]
 try simp only [QaR,eY]
 all_goals rfl
theorem QnE {R1 c} [H1 : EncR VS R1 c] : CA T (n + 7) 90 [some (Ent.box R1)] [.ptr 0 0 0] = (Qde c).map fun r=>(.sl 1,[some (Ent.box (VS r.1)),some (Ent.lst 3 (r.2.map ZV))]):=by
 obtain ⟨rfl⟩:=H1
 rw [Qea]
 simp -dsimp +contextual (maxSteps:=100000000) only [↓evA,eZ,Nat.reduceAdd,Nat.reduceMul,Nat.reduceBEq,Nat.reduceLeDiff,Nat.reduceLT,Tryz.func90,Tryz.f90,QKA,QxU,srt,QY,J2,QkB]
 try simp only [Qde,eY]
 all_goals rfl
theorem QhL {R1 c} [H1 : EncL Qdg R1 c] : CP T (n + 17) 27 [.imm 1 R1] = (Qal c).map fun r=>.tup [.agg (VW r.1),.i .i64 r.2.1,.own 3 (r.2.2.map ZV)]:=by
 obtain ⟨rfl⟩:=H1
 rw [Qh]
 simp -dsimp +contextual (maxSteps:=100000000) only [↓evA,eZ,Nat.reduceAdd,Nat.reduceMul,Nat.reduceBEq,Nat.reduceLeDiff,Nat.reduceLT,Tryz.func27,Tryz.f27,QRG,QBu,srt,Qbh,ZN,QbK,QY,QnE]
 try simp only [Qal,eY]
 try simp only [List.contains_nil,Bool.not_false,Bool.and_true,VC,List.length_append,List.length_cons,List.length_nil,Nat.zero_add,Vy,VP]
 all_goals first | rfl | (simp +contextual only [evN] <;> rfl)
theorem Qpo {R1 a} [H1 : EncR ZV R1 a] : CP T (n + 2) 217 [.agg R1] = (QeM a).map fun r=>.b r:=by
 obtain ⟨rfl⟩:=H1
 rw [Qh]
 simp -dsimp +contextual only [↓evA,eZ,Nat.reduceAdd,Nat.reduceMul,Nat.reduceBEq,Nat.reduceLeDiff,Nat.reduceLT,Tryz.func217,Tryz.f217,QPC,Qum,Q7]
 try simp only [QeM,eY]
 all_goals rfl
theorem QkL {R1 a R2 c} [H1 : EncR ZV R1 a] [H2 : EncR ZV R2 c] : CP T (n + 1) 219 [.agg R1,.iptr 3 [R2] 0 0] = (QdB a c).map fun r=>.b r:=by
 rcases H1,H2 with ⟨⟨rfl⟩,⟨rfl⟩⟩
 rw [Qh]
 simp -dsimp +contextual only [↓evA,eZ,Nat.reduceAdd,Nat.reduceMul,Nat.reduceBEq,Nat.reduceLeDiff,Nat.reduceLT,Tryz.func219,Tryz.f219,QLO,QvB]
 try simp only [QdB,eY]
 all_goals rfl
theorem Qbm (a a2) {R1 s R2 f} [H1 : EncL ZV R1 s] [H2 : EncR ZV R2 f] : LP T (n + 2) 255 2 (frm [(0,.imm 3 R1),(1,.clo 219 [.iptr 3 [R2] 0 0]),(7,.i .i64 a),(8,.i .i64 a2)]) [] =
  Jt (run (Q1 s f a) a2) (fun (zr : Int)=>(XE.ret,frm [(4,.i .i64 zr)],[])) (fun (zr : Unit)=>(XE.exit 0,frm [],[])):=by
 rcases H1,H2 with ⟨⟨rfl⟩,⟨rfl⟩⟩
 rw [QJ]
 simp -dsimp only [↓evA,evB,Qt,Tryz.func255,Tryz.f255,QD7,QrT,TP,TZ,Nat.reduceAdd,Nat.reduceMul,Nat.reduceBEq,Nat.reduceLeDiff,Nat.reduceLT]
 apply Qy a2
 intro a2
 simp -dsimp +contextual only [↓evA,eZ,Nat.reduceAdd,Nat.reduceMul,Nat.reduceBEq,Nat.reduceLeDiff,Nat.reduceLT,QkL]
 try simp only [Q1,eY]
 all_goals rfl
theorem Qb4 {R1 s R2 c} [H1 : EncL ZV R1 s] [H2 : EncR ZV R2 c] : CP T (n + 3) 255 [.imm 3 R1,.clo 219 [.iptr 3 [R2] 0 0]] = (VT s c).map fun r=>.i .i64 r:=by
 rcases H1,H2 with ⟨⟨rfl⟩,⟨rfl⟩⟩
 rw [Qh]
 simp -dsimp +contextual only [↓evA,eZ,Nat.reduceAdd,Nat.reduceMul,Nat.reduceBEq,Nat.reduceLeDiff,Nat.reduceLT,Tryz.func255,Tryz.f255,QD7,QrT,Qbm]
 try simp only [VT,eY]
 all_goals rfl
theorem Qby {R1 s R2 c} [H1 : EncL ZV R1 s] [H2 : EncR ZV R2 c] : CP T (n + 4) 218 [.imm 3 R1,.clo 219 [.iptr 3 [R2] 0 0]] = (Vh s c).map fun r=>.b r:=by
 rcases H1,H2 with ⟨⟨rfl⟩,⟨rfl⟩⟩
 rw [Qh]
 simp -dsimp +contextual only [↓evA,eZ,Nat.reduceAdd,Nat.reduceMul,Nat.reduceBEq,Nat.reduceLeDiff,Nat.reduceLT,Tryz.func218,Tryz.f218,QOg,QtH,Qb4]
 try simp only [Vh,eY]
 all_goals rfl
theorem QjF (a2 a3) {R1 l R2 a} [H1 : EncL ZV R1 l] [H2 : EncL ZV R2 a] : LP T (n + 5) 160 4 (frm [(0,.imm 3 R1),(8,.imm 3 R2),(9,.i .i64 a2),(10,.i .i64 a3)]) [] =
  Jt (run (ZX l a a2) a3) (fun (zr : Bool)=>(XE.ret,frm [(2,.b zr)],[])) (fun (zr : Unit)=>(XE.exit 0,frm [],[])):=by
 rcases H1,H2 with ⟨⟨rfl⟩,⟨rfl⟩⟩
 rw [QJ]
 simp -dsimp only [↓evA,evB,Qt,Tryz.func160,Tryz.f160,QD6,QqD,TP,TZ,Nat.reduceAdd,Nat.reduceMul,Nat.reduceBEq,Nat.reduceLeDiff,Nat.reduceLT]
 apply Qy a3
 intro a3
 simp -dsimp +contextual only [↓evA,eZ,Nat.reduceAdd,Nat.reduceMul,Nat.reduceBEq,Nat.reduceLeDiff,Nat.reduceLT,Qpo,Qby]
 try simp only [ZX,eY]
 all_goals rfl
theorem Qnv {R1 l} [H1 : EncL ZV R1 l] : CP T (n + 6) 160 [.imm 3 R1] = (Qeq l).map fun r=>.b r:=by
 obtain ⟨rfl⟩:=H1
 rw [Qh]
 simp -dsimp +contextual only [↓evA,eZ,Nat.reduceAdd,Nat.reduceMul,Nat.reduceBEq,Nat.reduceLeDiff,Nat.reduceLT,Tryz.func160,Tryz.f160,QD6,QqD,QjF]
 try simp only [Qeq,eY]
 all_goals rfl
theorem QiA {R1 s} [H1 : EncL ZV R1 s] : CP T (n + 1) 220 [.imm 3 R1] = (Qcm s).map fun r=>.own 3 (r.map ZV):=by
 obtain ⟨rfl⟩:=H1
 rw [Qh]
 simp -dsimp +contextual only [↓evA,eZ,Nat.reduceAdd,Nat.reduceMul,Nat.reduceBEq,Nat.reduceLeDiff,Nat.reduceLT,Tryz.func220,Tryz.f220,QMo,QtN]
 try simp only [Qcm,eY]
 all_goals first | rfl | (simp +contextual only [evN] <;> rfl)
theorem Qlz (a) : CP T (n + 1) 234 [.i .i64 a] = (QcF a).map fun r=>.b r:=by
 rw [Qh]
 simp -dsimp +contextual only [↓evA,eZ,Nat.reduceAdd,Nat.reduceMul,Nat.reduceBEq,Nat.reduceLeDiff,Nat.reduceLT,Tryz.func234,Tryz.f234,QI6,Qt4]
 try simp only [QcF,eY]
 all_goals rfl
theorem Qjd (a a2) : CP T (n + 2) 223 [.i .i64 a,.i .i64 a2] = (QcU a a2).map fun r=>.i .i64 r:=by
 rw [Qh]
 simp -dsimp +contextual only [↓evA,eZ,Nat.reduceAdd,Nat.reduceMul,Nat.reduceBEq,Nat.reduceLeDiff,Nat.reduceLT,Tryz.func223,Tryz.f223,QPu,Qvr,Qlz]
 try simp only [QcU,eY]
 all_goals rfl
theorem QhY {R1 a R2 b} [H1 : EncR ZV R1 a] [H2 : EncR ZV R2 b] : CP T (n + 3) 222 [.agg R1,.agg R2] = (Qak a b).map fun r=>.i .i64 r:=by
 rcases H1,H2 with ⟨⟨rfl⟩,⟨rfl⟩⟩
 rw [Qh]
 simp -dsimp +contextual only [↓evA,eZ,Nat.reduceAdd,Nat.reduceMul,Nat.reduceBEq,Nat.reduceLeDiff,Nat.reduceLT,Tryz.func222,Tryz.f222,QMn,QuO,Qjd]
 try simp only [Qak,eY]
 all_goals rfl
theorem JP (a b i j) {R1 d} [H1 : EncL ZV R1 d] : LP T (n + 4) 268 4 (frm [(0,.sl 0),(1,.i .i64 a),(2,.i .i64 b),(3,.clo 222 []),(8,.i .i64 i),(9,.i .i64 j)]) [some (Ent.lst 3 R1)] =
  (run (QB a b i) (d,j)).map (fun (zr : (List Bid))=>(XE.exit 2,frm [(0,.sl 0),(1,.i .i64 a),(2,.i .i64 b),(3,.clo 222 []),(8,.i .i64 i)],[some (Ent.lst 3 (zr.map ZV))])):=by
 obtain ⟨rfl⟩:=H1
 rw [QJ]
 simp -dsimp only [↓evA,evB,Qt,Tryz.func268,Tryz.f268,QzA,QoG,TP,TZ,Nat.reduceAdd,Nat.reduceMul,Nat.reduceBEq,Nat.reduceLeDiff,Nat.reduceLT]
 apply V2 d j
 intro d j
 simp -dsimp +contextual only [↓evA,eZ,Nat.reduceAdd,Nat.reduceMul,Nat.reduceBEq,Nat.reduceLeDiff,Nat.reduceLT,QhY]
 try simp only [QB,eY]
 all_goals rfl
theorem JO (a b i) {R1 d} [H1 : EncL ZV R1 d] : LP T (n + 5) 268 1 (frm [(0,.sl 0),(1,.i .i64 a),(2,.i .i64 b),(3,.clo 222 []),(8,.i .i64 i)]) [some (Ent.lst 3 R1)] =
  (run (Qq a b) (d,i)).map (fun (zr : (List Bid))=>(XE.exit 0,frm [(0,.sl 0)],[some (Ent.lst 3 (zr.map ZV))])):=by
 obtain ⟨rfl⟩:=H1
 rw [QJ]
 simp -dsimp only [↓evA,evB,Qt,Tryz.func268,Tryz.f268,QzA,QoG,TP,TZ,Nat.reduceAdd,Nat.reduceMul,Nat.reduceBEq,Nat.reduceLeDiff,Nat.reduceLT]
 apply V2 d i
 intro d i
 simp -dsimp +contextual only [↓evA,eZ,Nat.reduceAdd,Nat.reduceMul,Nat.reduceBEq,Nat.reduceLeDiff,Nat.reduceLT,JP]
 try simp only [Qq,eY]
 all_goals rfl
theorem Xd (a b) {R1 d} [H1 : EncL ZV R1 d] : CA T (n + 6) 268 [some (Ent.lst 3 R1)] [.sl 0,.i .i64 a,.i .i64 b,.clo 222 []] = (Qm d a b).map fun r=>(.tup [],[some (Ent.lst 3 (r.map ZV))]):=by
 obtain ⟨rfl⟩:=H1
 rw [Qea]
 simp -dsimp +contextual only [↓evA,eZ,Nat.reduceAdd,Nat.reduceMul,Nat.reduceBEq,Nat.reduceLeDiff,Nat.reduceLT,Tryz.func268,Tryz.f268,QzA,QoG,JO]
 try simp only [Qm,eY]
 all_goals rfl
theorem ZR (a b a2 b2) {R1 d} [H1 : EncL ZV R1 d] : LP T (n + 7) 256 2 (frm [(0,.sl 0),(1,.i .i64 a),(2,.clo 222 []),(6,.i .i64 b),(7,.i .i64 a2),(8,.i .i64 b2)]) [some (Ent.lst 3 R1)] =
  (run (Qs a b) (d,a2,b2)).map (fun (zr : (List Bid) × Int)=>(XE.exit 0,frm [(0,.sl 0),(1,.i .i64 a),(2,.clo 222 []),(6,.i .i64 b),(7,.i .i64 zr.2)],[some (Ent.lst 3 (zr.1.map ZV))])):=by
 obtain ⟨rfl⟩:=H1
 rw [QJ]
 simp -dsimp only [↓evA,evB,Qt,Tryz.func256,Tryz.f256,QvC,QmJ,TP,TZ,Nat.reduceAdd,Nat.reduceMul,Nat.reduceBEq,Nat.reduceLeDiff,Nat.reduceLT]
 apply QdY d a2 b2
 intro d a2 b2
 simp -dsimp +contextual only [↓evA,eZ,Nat.reduceAdd,Nat.reduceMul,Nat.reduceBEq,Nat.reduceLeDiff,Nat.reduceLT,srt,Xd]
 try simp only [Qs,eY]
 all_goals rfl
theorem ZT (a b a2 b2) {R1 d} [H1 : EncL ZV R1 d] : LP T (n + 2) 256 9 (frm [(0,.sl 0),(1,.i .i64 a),(2,.clo 222 []),(6,.i .i64 b),(7,.i .i64 a2),(8,.i .i64 b2)]) [some (Ent.lst 3 R1)] =
  (run (VL d a b a2 b2) ()).map (fun (zr : Unit)=>(XE.exit 4,frm [(0,.sl 0),(1,.i .i64 a),(2,.clo 222 []),(6,.i .i64 b),(7,.i .i64 a2)],[some (Ent.lst 3 (d.map ZV))])):=by
 obtain ⟨rfl⟩:=H1
 rw [QJ]
 simp -dsimp only [↓evA,evB,Qt,Tryz.func256,Tryz.f256,QvC,QmJ,TP,TZ,Nat.reduceAdd,Nat.reduceMul,Nat.reduceBEq,Nat.reduceLeDiff,Nat.reduceLT]
 apply Qw9
 simp -dsimp +contextual only [↓evA,eZ,Nat.reduceAdd,Nat.reduceMul,Nat.reduceBEq,Nat.reduceLeDiff,Nat.reduceLT,srt]
 try simp only [VL,eY]
 all_goals rfl
theorem ZU (a b) {R1 d} [H1 : EncL ZV R1 d] : LP T (n + 3) 256 7 (frm [(0,.sl 0),(1,.i .i64 a),(2,.clo 222 []),(6,.i .i64 b)]) [some (Ent.lst 3 R1)] =
  (run (QW d a) b).map (fun (zr : Unit)=>(XE.exit 2,frm [(0,.sl 0)],[some (Ent.lst 3 (d.map ZV))])):=by
 obtain ⟨rfl⟩:=H1
 rw [QJ]
 simp -dsimp only [↓evA,evB,Qt,Tryz.func256,Tryz.f256,QvC,QmJ,TP,TZ,Nat.reduceAdd,Nat.reduceMul,Nat.reduceBEq,Nat.reduceLeDiff,Nat.reduceLT]
 apply Qy b
 intro b
 simp -dsimp +contextual only [↓evA,eZ,Nat.reduceAdd,Nat.reduceMul,Nat.reduceBEq,Nat.reduceLeDiff,Nat.reduceLT,srt,ZT]
 try simp only [QW,eY]
 all_goals rfl
theorem Qaz (a) {R1 d} [H1 : EncL ZV R1 d] : CA T (n + 8) 256 [some (Ent.lst 3 R1)] [.sl 0,.i .i64 a,.clo 222 []] = (Vs d a).map fun r=>(.tup [],[some (Ent.lst 3 (r.map ZV))]):=by
 obtain ⟨rfl⟩:=H1
 rw [Qea]
 simp -dsimp +contextual only [↓evA,eZ,Nat.reduceAdd,Nat.reduceMul,Nat.reduceBEq,Nat.reduceLeDiff,Nat.reduceLT,Tryz.func256,Tryz.f256,QvC,QmJ,srt,Xd,ZR,ZU]
 try simp only [Vs,eY]
 all_goals rfl
theorem Qat {R1 a} [H1 : EncL ZV R1 a] : CA T (n + 9) 221 [some (Ent.lst 3 R1)] [.sl 0,.clo 222 []] = (Vp a).map fun r=>(.tup [],[some (Ent.lst 3 (r.map ZV))]):=by
 obtain ⟨rfl⟩:=H1
 rw [Qea]
 simp -dsimp +contextual only [↓evA,eZ,Nat.reduceAdd,Nat.reduceMul,Nat.reduceBEq,Nat.reduceLeDiff,Nat.reduceLT,Tryz.func221,Tryz.f221,QMM,Qvb,srt,Qaz]
 try simp only [Vp,eY]
 all_goals rfl
theorem Qjt {R1 l} [H1 : EncL ZV R1 l] : CP T (n + 10) 161 [.imm 3 R1] = (Qbt l).map fun r=>.own 3 (r.map ZV):=by
 obtain ⟨rfl⟩:=H1
 rw [Qh]
 simp -dsimp +contextual only [↓evA,eZ,Nat.reduceAdd,Nat.reduceMul,Nat.reduceBEq,Nat.reduceLeDiff,Nat.reduceLT,Tryz.func161,Tryz.f161,QNw,Qvi,srt,QiA,Qat]
 try simp only [Qbt,eY]
 all_goals first | rfl | (simp +contextual only [evN] <;> rfl)
theorem QnF {R1 l} [H1 : EncL ZV R1 l] : CP T (n + 11) 91 [.imm 3 R1] = (Qd7 l).map fun r=>.tup [.i .i64 r.1,.i .i64 r.2]:=by
 obtain ⟨rfl⟩:=H1
 rw [Qh]
 simp -dsimp +contextual only [↓evA,eZ,Nat.reduceAdd,Nat.reduceMul,Nat.reduceBEq,Nat.reduceLeDiff,Nat.reduceLT,Tryz.func91,Tryz.f91,QTN,QCc,Qnv,Qjt]
 try simp only [Qd7,eY]
 all_goals rfl
theorem QlB (k) : CP T (n + 1) 257 [.i .i64 k] = (QdV k).map fun r=>.i .i64 r:=by
 rw [Qh]
 simp -dsimp +contextual only [↓evA,eZ,Nat.reduceAdd,Nat.reduceMul,Nat.reduceBEq,Nat.reduceLeDiff,Nat.reduceLT,Tryz.func257,Tryz.f257,QIU,Quy]
 try simp only [QdV,eY]
 all_goals rfl
theorem QmQ {R1 f} [H1 : EncR QH R1 f] : CP T (n + 4) 224 [.agg R1] = (Qer f).map fun r=>.i .i64 r:=by
 obtain ⟨rfl⟩:=H1
 rw [Qh]
 simp -dsimp +contextual only [↓evA,eZ,Nat.reduceAdd,Nat.reduceMul,Nat.reduceBEq,Nat.reduceLeDiff,Nat.reduceLT,Tryz.func224,Tryz.f224,QOw,Qua,Qfp,QlB]
 try simp only [Qer,eY]
 all_goals rfl
theorem QpD (a) {R1 f} [H1 : EncR QH R1 f] : CP T (n + 5) 162 [.agg R1,.i .i64 a] = (QeB f a).map fun r=>.b r:=by
 obtain ⟨rfl⟩:=H1
 rw [Qh]
 simp -dsimp +contextual only [↓evA,eZ,Nat.reduceAdd,Nat.reduceMul,Nat.reduceBEq,Nat.reduceLeDiff,Nat.reduceLT,Tryz.func162,Tryz.f162,QK2,Qt1,Qfp,QmQ]
 try simp only [QeB,eY]
 all_goals rfl
theorem Qlu {R1 c R2 c2} [H1 : EncR Qk R1 c] [H2 : EncR QbY R2 c2] : CP T (n + 1) 163 [.agg R1,.iptr 5 [R2] 0 0] = (QdU c c2).map fun r=>.b r:=by
 rcases H1,H2 with ⟨⟨rfl⟩,⟨rfl⟩⟩
 rw [Qh]
 simp -dsimp +contextual only [↓evA,eZ,Nat.reduceAdd,Nat.reduceMul,Nat.reduceBEq,Nat.reduceLeDiff,Nat.reduceLT,Tryz.func163,Tryz.f163,QKY,Qvu]
 try simp only [QdU,eY]
 all_goals rfl
theorem Qa4 (a a2) {R1 s R2 f} [H1 : EncL Qk R1 s] [H2 : EncR QbY R2 f] : LP T (n + 2) 148 2 (frm [(0,.imm 5 R1),(1,.clo 163 [.iptr 5 [R2] 0 0]),(7,.i .i64 a),(8,.i .i64 a2)]) [] =
  Jt (run (QV s f a) a2) (fun (zr : Int)=>(XE.ret,frm [(4,.i .i64 zr)],[])) (fun (zr : Unit)=>(XE.exit 0,frm [],[])):=by
 rcases H1,H2 with ⟨⟨rfl⟩,⟨rfl⟩⟩
 rw [QJ]
 simp -dsimp only [↓evA,evB,Qt,Tryz.func148,Tryz.f148,Qoe,QjQ,TP,TZ,Nat.reduceAdd,Nat.reduceMul,Nat.reduceBEq,Nat.reduceLeDiff,Nat.reduceLT]
 apply Qy a2
 intro a2
 simp -dsimp +contextual only [↓evA,eZ,Nat.reduceAdd,Nat.reduceMul,Nat.reduceBEq,Nat.reduceLeDiff,Nat.reduceLT,Qlu]
 try simp only [QV,eY]
 all_goals rfl
theorem QbT {R1 s R2 c} [H1 : EncL Qk R1 s] [H2 : EncR QbY R2 c] : CP T (n + 3) 148 [.imm 5 R1,.clo 163 [.iptr 5 [R2] 0 0]] = (VN s c).map fun r=>.i .i64 r:=by
 rcases H1,H2 with ⟨⟨rfl⟩,⟨rfl⟩⟩
 rw [Qh]
 simp -dsimp +contextual only [↓evA,eZ,Nat.reduceAdd,Nat.reduceMul,Nat.reduceBEq,Nat.reduceLeDiff,Nat.reduceLT,Tryz.func148,Tryz.f148,Qoe,QjQ,Qa4]
 try simp only [VN,eY]
 all_goals rfl
theorem Qa9 {R1 s R2 c} [H1 : EncL Qk R1 s] [H2 : EncR QbY R2 c] : CP T (n + 4) 143 [.imm 5 R1,.clo 163 [.iptr 5 [R2] 0 0]] = (Vd s c).map fun r=>.b r:=by
 rcases H1,H2 with ⟨⟨rfl⟩,⟨rfl⟩⟩
 rw [Qh]
 simp -dsimp +contextual only [↓evA,eZ,Nat.reduceAdd,Nat.reduceMul,Nat.reduceBEq,Nat.reduceLeDiff,Nat.reduceLT,Tryz.func143,Tryz.f143,QD2,Qqg,QbT]
 try simp only [Vd,eY]
 all_goals rfl
theorem Qie (a) {R1 f R2 l} [H1 : EncR QH R1 f] [H2 : EncL Qk R2 l] : CP T (n + 6) 92 [.agg R1,.imm 5 R2,.i .i64 a] = (Qc6 f l a).map fun r=>.i .i64 r:=by
 rcases H1,H2 with ⟨⟨rfl⟩,⟨rfl⟩⟩
 rw [Qh]
 simp -dsimp +contextual only [↓evA,eZ,Nat.reduceAdd,Nat.reduceMul,Nat.reduceBEq,Nat.reduceLeDiff,Nat.reduceLT,Tryz.func92,Tryz.f92,QSm,QAF,QeJ,QpD,Qa9]
 try simp only [Qc6,eY]
 all_goals rfl
theorem Qg0 (c s a2 a3) {R1 p R2 o R3 a} [H1 : EncL VO R1 p] [H2 : EncL VO R2 o] [H3 : EncL VO R3 a] : LP T (n + 2) 164 6 (frm [(0,.i .i64 c),(1,.imm 1 R1),(5,.sl 0),(6,.i .i64 s),(25,.imm 1 R3),(26,.i .i64 a2),(27,.i .i64 a3)]) [some (Ent.lst 1 R2)] =
  Jt (run (Jo c p o a a2) (s,a3)) (fun (zr : (List Int))=>(XE.ret,frm [(4,.sl 0)],[some (Ent.lst 1 (zr.map VO))])) (fun (zr : Int)=>(XE.exit 0,frm [(0,.i .i64 c),(1,.imm 1 (p.map VO)),(5,.sl 0),(6,.i .i64 zr)],[some (Ent.lst 1 (o.map VO))])):=by
 rcases H1,H2,H3 with ⟨⟨rfl⟩,⟨rfl⟩,⟨rfl⟩⟩
 rw [QJ]
 simp -dsimp only [↓evA,evB,Qt,Tryz.func164,Tryz.f164,QtQ,Qm4,TP,TZ,Nat.reduceAdd,Nat.reduceMul,Nat.reduceBEq,Nat.reduceLeDiff,Nat.reduceLT]
 apply V2 s a3
 intro s a3
 simp -dsimp +contextual only [↓evA,eZ,Nat.reduceAdd,Nat.reduceMul,Nat.reduceBEq,Nat.reduceLeDiff,Nat.reduceLT,Q7]
 try simp only [Jo,eY]
 all_goals rfl
theorem Qgy (c s l a2 a3) {R1 o R2 a} [H1 : EncL VO R1 o] [H2 : EncL VO R2 a] : LP T (n + 1) 164 16 (frm [(0,.i .i64 c),(5,.sl 0),(6,.i .i64 s),(9,.i .i64 l),(43,.imm 1 R2),(44,.i .i64 a2),(45,.i .i64 a3)]) [some (Ent.lst 1 R1)] =
  (run (Xt c s a a2) (o,l,a3)).map (fun (zr : (List Int) × Int)=>(XE.exit 2,frm [(5,.sl 0),(9,.i .i64 zr.2)],[some (Ent.lst 1 (zr.1.map VO))])):=by
 rcases H1,H2 with ⟨⟨rfl⟩,⟨rfl⟩⟩
 rw [QJ]
 simp -dsimp only [↓evA,evB,Qt,Tryz.func164,Tryz.f164,QtQ,Qm4,TP,TZ,Nat.reduceAdd,Nat.reduceMul,Nat.reduceBEq,Nat.reduceLeDiff,Nat.reduceLT]
 apply QdY o l a3
 intro o l a3
 simp -dsimp +contextual only [↓evA,eZ,Nat.reduceAdd,Nat.reduceMul,Nat.reduceBEq,Nat.reduceLeDiff,Nat.reduceLT]
 try simp only [Xt,eY]
 all_goals rfl
theorem Qgt (l i) {R1 o} [H1 : EncL VO R1 o] : LP T (n + 1) 164 23 (frm [(5,.sl 0),(9,.i .i64 l),(13,.i .i64 i)]) [some (Ent.lst 1 R1)] =
  (run Jf (o,l,i)).map (fun (zr : (List Int))=>(XE.exit 4,frm [(5,.sl 0)],[some (Ent.lst 1 (zr.map VO))])):=by
 obtain ⟨rfl⟩:=H1
 rw [QJ]
 simp -dsimp only [↓evA,evB,Qt,Tryz.func164,Tryz.f164,QtQ,Qm4,TP,TZ,Nat.reduceAdd,Nat.reduceMul,Nat.reduceBEq,Nat.reduceLeDiff,Nat.reduceLT]
 apply QdY o l i
 intro o l i
 simp -dsimp +contextual only [↓evA,eZ,Nat.reduceAdd,Nat.reduceMul,Nat.reduceBEq,Nat.reduceLeDiff,Nat.reduceLT]
 try simp only [Jf,eY]
 all_goals rfl
theorem QjM (c) {R1 p} [H1 : EncL VO R1 p] : CP T (n + 3) 164 [.i .i64 c,.imm 1 R1] = (QbB c p).map fun r=>.own 1 (r.map VO):=by
 obtain ⟨rfl⟩:=H1
 rw [Qh]
 simp -dsimp +contextual only [↓evA,eZ,Nat.reduceAdd,Nat.reduceMul,Nat.reduceBEq,Nat.reduceLeDiff,Nat.reduceLT,Tryz.func164,Tryz.f164,QtQ,Qm4,Q7,Qg0,Qgy,Qgt]
 try simp only [QbB,eY]
 all_goals first | rfl | (simp +contextual only [evN] <;> rfl)
theorem Qne (p f) : CP T (n + 4) 93 [.i .i64 p,.i .i64 f] = (Qce p f).map fun r=>.own 2 (r.map QkC):=by
 rw [Qh]
 simp -dsimp +contextual only [↓evA,eZ,Nat.reduceAdd,Nat.reduceMul,Nat.reduceBEq,Nat.reduceLeDiff,Nat.reduceLT,Tryz.func93,Tryz.f93,QUh,QAP,Q7,QjM]
 try simp only [Qce,eY]
 all_goals first | rfl | (simp +contextual only [evN] <;> rfl)
theorem Qlm (a2) {R1 a R2 b} [H1 : EncR Q5 R1 a] [H2 : EncL ZV R2 b] : CP T (n + 13) 28 [.agg R1,.i .i64 a2,.imm 3 R2] = (QcN a a2 b).map fun r=>.tup [.agg (VW r.1),.b r.2]:=by
 rcases H1,H2 with ⟨⟨rfl⟩,⟨rfl⟩⟩
 rw [Qh]
 simp -dsimp +contextual (maxSteps:=100000000) only [↓evA,eZ,Nat.reduceAdd,Nat.reduceMul,Nat.reduceBEq,Nat.reduceLeDiff,Nat.reduceLT,Tryz.func28,Tryz.f28,QV9,QBJ,srt,Qfl,QnF,Qie,VI,Qfj,Qge,Qne,QaT]
 try simp only [QcN,eY]
 all_goals rfl
theorem Qg5 {R1 c} [H1 : EncL Qdg R1 c] : CP T (n + 17) 29 [.imm 1 R1] = (ZK c).map fun r=>.tup [.agg (VW r.1),.i .i64 r.2]:=by
 obtain ⟨rfl⟩:=H1
 rw [Qh]
 simp -dsimp +contextual (maxSteps:=100000000) only [↓evA,eZ,Nat.reduceAdd,Nat.reduceMul,Nat.reduceBEq,Nat.reduceLeDiff,Nat.reduceLT,Tryz.func29,Tryz.f29,QUN,QDB,srt,Qbh,ZN,QbK,QY]
 try simp only [ZK,eY]
 try simp only [List.contains_nil,Bool.not_false,Bool.and_true,VC,List.length_append,List.length_cons,List.length_nil,Nat.zero_add,Vy,VP]
 all_goals rfl
theorem QkJ {R1 a R2 o R3 d} [H1 : EncR Q5 R1 a] [H2 : EncR Q5 R2 o] [H3 : EncL c_b R3 d] : CM T (n + 12) 76 [some (Ent.lst 1 R3)] [.agg R1,.agg R2,.sl 0] = (QaM a o d).map fun r=>.tup [.agg (VW r.1),.b r.2]:=by
 rcases H1,H2,H3 with ⟨⟨rfl⟩,⟨rfl⟩,⟨rfl⟩⟩
 rw [Qok]
 simp -dsimp +contextual (maxSteps:=100000000) only [↓evA,eZ,Nat.reduceAdd,Nat.reduceMul,Nat.reduceBEq,Nat.reduceLeDiff,Nat.reduceLT,Tryz.func76,Tryz.f76,QIk,Qw0,Qa7,Qr,VI]
 try simp only [QaM,eY]
 all_goals rfl
theorem Qku (a2) {R1 a} [H1 : EncR Q5 R1 a] : CP T (n + 13) 30 [.agg R1,.i .i64 a2] = (QbV a a2).map fun r=>.tup [.agg (VW r.1),.b r.2]:=by
 obtain ⟨rfl⟩:=H1
 rw [Qh]
 simp -dsimp +contextual (maxSteps:=100000000) only [↓evA,eZ,Nat.reduceAdd,Nat.reduceMul,Nat.reduceBEq,Nat.reduceLeDiff,Nat.reduceLT,Tryz.func30,Tryz.f30,QSe,QAL,srt,Qfl,VI,Qie,Qfj,QaT,QkJ]
 try simp only [QbV,eY]
 all_goals rfl
theorem QhS {R1 c} [H1 : EncL Qdg R1 c] : CP T (n + 17) 31 [.imm 1 R1] = (Qaq c).map fun r=>.tup [.agg (VW r.1),.i .i64 r.2]:=by
 obtain ⟨rfl⟩:=H1
 rw [Qh]
 simp -dsimp +contextual (maxSteps:=100000000) only [↓evA,eZ,Nat.reduceAdd,Nat.reduceMul,Nat.reduceBEq,Nat.reduceLeDiff,Nat.reduceLT,Tryz.func31,Tryz.f31,QVA,QCh,srt,Qbh,ZN,QbK,J2]
 try simp only [Qaq,eY]
 try simp only [List.contains_nil,Bool.not_false,Bool.and_true,VC,List.length_append,List.length_cons,List.length_nil,Nat.zero_add,Vy,VP]
 all_goals rfl
theorem Qlh (a2) {R1 a} [H1 : EncR Q5 R1 a] : CP T (n + 13) 32 [.agg R1,.i .i64 a2] = (QcK a a2).map fun r=>.tup [.agg (VW r.1),.b r.2]:=by
 obtain ⟨rfl⟩:=H1
 rw [Qh]
 simp -dsimp +contextual (maxSteps:=100000000) only [↓evA,eZ,Nat.reduceAdd,Nat.reduceMul,Nat.reduceBEq,Nat.reduceLeDiff,Nat.reduceLT,Tryz.func32,Tryz.f32,QSK,QCK,srt,VI,Q7,QaT]
 try simp only [QcK,eY]
 all_goals rfl
theorem Qli (a3 a4) {R1 a R2 o R3 a2} [H1 : EncR Q5 R1 a] [H2 : EncL VO R2 o] [H3 : EncL QH R3 a2] : LP T (n + 5) 11 3 (frm [(1,.ptr 0 0 0),(3,.sl 1),(8,.imm 8 R3),(9,.i .i64 a3),(10,.i .i64 a4)]) [some (Ent.box R1),some (Ent.lst 1 R2)] =
  (run (QbF a a2 a3) (o,a4)).map (fun (zr : (List Int))=>(XE.exit 0,frm [(3,.sl 0)],[some (Ent.lst 1 (zr.map VO))])):=by
 rcases H1,H2,H3 with ⟨⟨rfl⟩,⟨rfl⟩,⟨rfl⟩⟩
 rw [QJ]
 simp -dsimp only [↓evA,evB,Qt,Tryz.func11,Tryz.f11,QOm,QAc,TP,TZ,Nat.reduceAdd,Nat.reduceMul,Nat.reduceBEq,Nat.reduceLeDiff,Nat.reduceLT]
 apply V2 o a4
 intro o a4
 simp -dsimp +contextual (maxSteps:=100000000) only [↓evA,eZ,Nat.reduceAdd,Nat.reduceMul,Nat.reduceBEq,Nat.reduceLeDiff,Nat.reduceLT,J9]
 try simp only [QbF,eY]
 all_goals rfl
theorem QR {R1 a} [H1 : EncR Q5 R1 a] : CP T (n + 6) 11 [.agg R1] = (Jq a).map fun r=>.own 1 (r.map VO):=by
 obtain ⟨rfl⟩:=H1
 rw [Qh]
 simp -dsimp +contextual (maxSteps:=100000000) only [↓evA,eZ,Nat.reduceAdd,Nat.reduceMul,Nat.reduceBEq,Nat.reduceLeDiff,Nat.reduceLT,Tryz.func11,Tryz.f11,QOm,QAc,Qli]
 try simp only [Jq,eY]
 all_goals first | rfl | (simp +contextual only [evN] <;> rfl)
theorem Qiw (a i) {R1 l} [H1 : EncL VO R1 l] : LP T (n + 1) 33 2 (frm [(0,.imm 1 R1),(1,.i .i64 a),(5,.i .i64 i)]) [] =
  Jt (run (Zw l a) i) (fun (zr : Bool)=>(XE.ret,frm [(4,.b zr)],[])) (fun (zr : Unit)=>(XE.exit 0,frm [],[])):=by
 obtain ⟨rfl⟩:=H1
 rw [QJ]
 simp -dsimp only [↓evA,evB,Qt,Tryz.func33,Tryz.f33,QN8,QyX,TP,TZ,Nat.reduceAdd,Nat.reduceMul,Nat.reduceBEq,Nat.reduceLeDiff,Nat.reduceLT]
 apply Qy i
 intro i
 simp -dsimp +contextual only [↓evA,eZ,Nat.reduceAdd,Nat.reduceMul,Nat.reduceBEq,Nat.reduceLeDiff,Nat.reduceLT]
 try simp only [Zw,eY]
 all_goals rfl
theorem Qz (a) {R1 l} [H1 : EncL VO R1 l] : CP T (n + 2) 33 [.imm 1 R1,.i .i64 a] = (V6 l a).map fun r=>.b r:=by
 obtain ⟨rfl⟩:=H1
 rw [Qh]
 simp -dsimp +contextual only [↓evA,eZ,Nat.reduceAdd,Nat.reduceMul,Nat.reduceBEq,Nat.reduceLeDiff,Nat.reduceLT,Tryz.func33,Tryz.f33,QN8,QyX,Qiw]
 try simp only [V6,eY]
 all_goals rfl
theorem Qj0 (a) : CP T (n + 2) 94 [.i .i64 a] = (J5 a).map fun r=>.s r:=by
 rw [Qh]
 simp -dsimp +contextual only [↓evA,eZ,Nat.reduceAdd,Nat.reduceMul,Nat.reduceBEq,Nat.reduceLeDiff,Nat.reduceLT,Tryz.func94,Tryz.f94,QW1,QDc,Q7]
 try simp only [J5,eY]
 all_goals rfl
theorem QO (a) {R1 l} [H1 : EncL Vj R1 l] : CP T (n + 3) 34 [.imm 5 R1,.i .i64 a] = (Qbc l a).map fun r=>.s r:=by
 obtain ⟨rfl⟩:=H1
 rw [Qh]
 simp -dsimp +contextual only [↓evA,eZ,Nat.reduceAdd,Nat.reduceMul,Nat.reduceBEq,Nat.reduceLeDiff,Nat.reduceLT,Tryz.func34,Tryz.f34,QWZ,QBI,Qeg,Qj0]
 try simp only [Qbc,eY]
 all_goals rfl
theorem Qi1 (a a2 a4 a5) {R1 a3} [H1 : EncL QZ R1 a3] : LP T (n + 1) 95 3 (frm [(1,.i .i64 a),(5,.i .i64 a2),(8,.imm 4 R1),(9,.i .i64 a4),(10,.i .i64 a5)]) [] =
  (run (J3 a a3 a4) (a2,a5)).map (fun (zr : Int)=>(XE.exit 0,frm [(5,.i .i64 zr)],[])):=by
 obtain ⟨rfl⟩:=H1
 rw [QJ]
 simp -dsimp only [↓evA,evB,Qt,Tryz.func95,Tryz.f95,QMj,Qz1,TP,TZ,Nat.reduceAdd,Nat.reduceMul,Nat.reduceBEq,Nat.reduceLeDiff,Nat.reduceLT]
 apply V2 a2 a5
 intro a2 a5
 simp -dsimp +contextual only [↓evA,eZ,Nat.reduceAdd,Nat.reduceMul,Nat.reduceBEq,Nat.reduceLeDiff,Nat.reduceLT]
 try simp only [J3,eY]
 all_goals rfl
theorem QmL (a) {R1 l} [H1 : EncL QZ R1 l] : CP T (n + 2) 95 [.imm 4 R1,.i .i64 a] = (Qes l a).map fun r=>.i .i64 r:=by
 obtain ⟨rfl⟩:=H1
 rw [Qh]
 simp -dsimp +contextual only [↓evA,eZ,Nat.reduceAdd,Nat.reduceMul,Nat.reduceBEq,Nat.reduceLeDiff,Nat.reduceLT,Tryz.func95,Tryz.f95,QMj,Qz1,Qi1]
 try simp only [Qes,eY]
 all_goals rfl
theorem QhU (a a2 a4 a5) {R1 a3} [H1 : EncL QZ R1 a3] : LP T (n + 1) 96 5 (frm [(1,.i .i64 a),(5,.i .i64 a2),(12,.imm 4 R1),(13,.i .i64 a4),(14,.i .i64 a5)]) [] =
  (run (X6 a a3 a4) (a2,a5)).map (fun (zr : Int)=>(XE.exit 0,frm [(5,.i .i64 zr)],[])):=by
 obtain ⟨rfl⟩:=H1
 rw [QJ]
 simp -dsimp only [↓evA,evB,Qt,Tryz.func96,Tryz.f96,QK5,Qz6,TP,TZ,Nat.reduceAdd,Nat.reduceMul,Nat.reduceBEq,Nat.reduceLeDiff,Nat.reduceLT]
 apply V2 a2 a5
 intro a2 a5
 simp -dsimp +contextual only [↓evA,eZ,Nat.reduceAdd,Nat.reduceMul,Nat.reduceBEq,Nat.reduceLeDiff,Nat.reduceLT]
 try simp only [X6,eY]
 all_goals rfl
end Go.Proofs.YtncpklppoancgaaGreat
