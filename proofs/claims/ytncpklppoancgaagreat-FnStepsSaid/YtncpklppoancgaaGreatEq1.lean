import Derived.Test.YtncpklppoancgaaGreatEc
namespace Go.Proofs.YtncpklppoancgaaGreat
open Go Go.Proofs Go.Proofs.YtncpklppoancgaaGreat.Am
set_option maxHeartbeats 4000000
set_option linter.unusedVariables false
set_option linter.unusedSimpArgs false
set_option linter.defProp false
set_option maxRecDepth 100000
variable (n : Nat)
theorem QsV {R1 c} [H1 : EncL Qdg R1 c] : CP T (n + 1) 5 [.imm 1 R1] = (QiY c).map fun r=>.b r:=by
 obtain ⟨rfl⟩:=H1
 rw [Qh]
 simp -dsimp +contextual only [↓evA,eZ,Nat.reduceAdd,Nat.reduceMul,Nat.reduceBEq,Nat.reduceLeDiff,Nat.reduceLT,Tryz.func5,Tryz.f5,Aa5,An5]
 try simp only [QiY,eY]
 all_goals rfl
theorem Qlx (a i) {R1 c} [H1 : EncL Qdg R1 c] : LP T (n + 1) 36 3 (frm [(0,.imm 1 R1),(3,.i .i64 a),(4,.i .i64 i)]) [] =
  (run (Zi c) (a,i)).map (fun (zr : Int)=>(XE.exit 0,frm [(0,.imm 1 (c.map Qdg)),(3,.i .i64 zr)],[])):=by
 obtain ⟨rfl⟩:=H1
 rw [QJ]
 simp -dsimp only [↓evA,evB,Qt,Tryz.func36,Tryz.f36,QK0,QyW,TP,TZ,Nat.reduceAdd,Nat.reduceMul,Nat.reduceBEq,Nat.reduceLeDiff,Nat.reduceLT]
 apply V2 a i
 intro a i
 simp -dsimp +contextual only [↓evA,eZ,Nat.reduceAdd,Nat.reduceMul,Nat.reduceBEq,Nat.reduceLeDiff,Nat.reduceLT]
 try simp only [Zi,eY]
 all_goals rfl
theorem Qbh {R1 c} [H1 : EncL Qdg R1 c] : CA T (n + 2) 36 [] [.imm 1 R1] = (ZG c).map fun r=>(.ptr 0 0 0,[some (Ent.box (VS r))]):=by
 obtain ⟨rfl⟩:=H1
 rw [Qea]
 simp -dsimp +contextual (maxSteps:=100000000) only [↓evA,eZ,Nat.reduceAdd,Nat.reduceMul,Nat.reduceBEq,Nat.reduceLeDiff,Nat.reduceLT,Tryz.func36,Tryz.f36,QK0,QyW,Qlx]
 try simp only [ZG,eY]
 all_goals rfl
theorem QnO {R1 c} [H1 : EncR VS R1 c] : CA T (n + 1) 116 [some (Ent.box R1)] [.ptr 0 0 0] = (Qa1 c).map fun r=>(.i .i64 r.2,[some (Ent.box (VS r.1))]):=by
 obtain ⟨rfl⟩:=H1
 rw [Qea]
 simp -dsimp +contextual (maxSteps:=100000000) only [↓evA,eZ,Nat.reduceAdd,Nat.reduceMul,Nat.reduceBEq,Nat.reduceLeDiff,Nat.reduceLT,Tryz.func116,Tryz.f116,QJb,Quu]
 try simp only [Qa1,eY]
 all_goals rfl
theorem QY (a) {R1 c} [H1 : EncR VS R1 c] : CA T (n + 2) 57 [some (Ent.box R1)] [.ptr 0 0 0,.i .i64 a] = (Qi c a).map fun r=>(.i .i64 r.2,[some (Ent.box (VS r.1))]):=by
 obtain ⟨rfl⟩:=H1
 rw [Qea]
 simp -dsimp +contextual (maxSteps:=100000000) only [↓evA,eZ,Nat.reduceAdd,Nat.reduceMul,Nat.reduceBEq,Nat.reduceLeDiff,Nat.reduceLT,Tryz.func57,Tryz.f57,QVk,QBM,srt,QnO]
 try simp only [Qi,eY]
 all_goals rfl
theorem Qih (i) {R1 c R2 l} [H1 : EncR VS R1 c] [H2 : EncL QX R2 l] : LP T (n + 3) 40 3 (frm [(0,.ptr 0 0 0),(3,.sl 1),(4,.i .i64 i)]) [some (Ent.box R1),some (Ent.lst 3 R2)] =
  (run Zy (c,l,i)).map (fun (zr : l1Cur × (List Slot))=>(XE.exit 0,frm [(0,.ptr 0 0 0),(3,.sl 1)],[some (Ent.box (VS zr.1)),some (Ent.lst 3 (zr.2.map QX))])):=by
 rcases H1,H2 with ⟨⟨rfl⟩,⟨rfl⟩⟩
 rw [QJ]
 simp -dsimp only [↓evA,evB,Qt,Tryz.func40,Tryz.f40,QI1,Qz5,TP,TZ,Nat.reduceAdd,Nat.reduceMul,Nat.reduceBEq,Nat.reduceLeDiff,Nat.reduceLT]
 apply QdY c l i
 intro c l i
 simp -dsimp +contextual only [↓evA,eZ,Nat.reduceAdd,Nat.reduceMul,Nat.reduceBEq,Nat.reduceLeDiff,Nat.reduceLT,srt,QY]
 try simp only [Zy,eY]
 all_goals rfl
theorem Qlp {R1 c} [H1 : EncR VS R1 c] : CA T (n + 4) 40 [some (Ent.box R1)] [.ptr 0 0 0] = (QcI c).map fun r=>(.sl 1,[some (Ent.box (VS r.1)),some (Ent.lst 3 (r.2.map QX))]):=by
 obtain ⟨rfl⟩:=H1
 rw [Qea]
 simp -dsimp +contextual (maxSteps:=100000000) only [↓evA,eZ,Nat.reduceAdd,Nat.reduceMul,Nat.reduceBEq,Nat.reduceLeDiff,Nat.reduceLT,Tryz.func40,Tryz.f40,QI1,Qz5,srt,Qih]
 try simp only [QcI,eY]
 all_goals rfl
theorem QiT (i) {R1 l R2 o} [H1 : EncL Ve R1 l] [H2 : EncL QC R2 o] : LP T (n + 1) 119 3 (frm [(0,.imm 3 R1),(3,.sl 0),(4,.i .i64 i)]) [some (Ent.lst 3 R2)] =
  (run (J8 l) (o,i)).map (fun (zr : (List Secret))=>(XE.exit 0,frm [(3,.sl 0)],[some (Ent.lst 3 (zr.map QC))])):=by
 rcases H1,H2 with ⟨⟨rfl⟩,⟨rfl⟩⟩
 rw [QJ]
 simp -dsimp only [↓evA,evB,Qt,Tryz.func119,Tryz.f119,QEH,QrC,TP,TZ,Nat.reduceAdd,Nat.reduceMul,Nat.reduceBEq,Nat.reduceLeDiff,Nat.reduceLT]
 apply V2 o i
 intro o i
 simp -dsimp +contextual only [↓evA,eZ,Nat.reduceAdd,Nat.reduceMul,Nat.reduceBEq,Nat.reduceLeDiff,Nat.reduceLT]
 try simp only [J8,eY]
 all_goals rfl
theorem QgD {R1 l} [H1 : EncL Ve R1 l] : CP T (n + 2) 119 [.imm 3 R1] = (XG l).map fun r=>.own 3 (r.map QC):=by
 obtain ⟨rfl⟩:=H1
 rw [Qh]
 simp -dsimp +contextual only [↓evA,eZ,Nat.reduceAdd,Nat.reduceMul,Nat.reduceBEq,Nat.reduceLeDiff,Nat.reduceLT,Tryz.func119,Tryz.f119,QEH,QrC,QiT]
 try simp only [XG,eY]
 all_goals first | rfl | (simp +contextual only [evN] <;> rfl)
theorem JG {R1 a} [H1 : EncR Q5 R1 a] : CP T (n + 3) 59 [.agg R1] = (VX a).map fun r=>.agg (VW r):=by
 obtain ⟨rfl⟩:=H1
 rw [Qh]
 simp -dsimp +contextual (maxSteps:=100000000) only [↓evA,eZ,Nat.reduceAdd,Nat.reduceMul,Nat.reduceBEq,Nat.reduceLeDiff,Nat.reduceLT,Tryz.func59,Tryz.f59,QTW,QA6,QgD]
 try simp only [VX,eY]
 all_goals rfl
theorem Xw (a l m) : CP T (n + 1) 193 [.i .i64 a,.i .i64 l,.i .i64 m] = (Qf a l m).map fun r=>.b r:=by
 rw [Qh]
 simp -dsimp +contextual only [↓evA,eZ,Nat.reduceAdd,Nat.reduceMul,Nat.reduceBEq,Nat.reduceLeDiff,Nat.reduceLT,Tryz.func193,Tryz.f193,QNZ,Quk]
 try simp only [Qf,eY]
 all_goals rfl
theorem QeR {R1 a} [H1 : EncR QbY R1 a] : CP T (n + 2) 227 [.agg R1] = (Jb a).map fun r=>.b r:=by
 obtain ⟨rfl⟩:=H1
 rw [Qh]
 simp -dsimp +contextual only [↓evA,eZ,Nat.reduceAdd,Nat.reduceMul,Nat.reduceBEq,Nat.reduceLeDiff,Nat.reduceLT,Tryz.func227,Tryz.f227,QMS,Quc,Xw]
 try simp only [Jb,eY]
 all_goals rfl
theorem QnI {R1 f} [H1 : EncR QH R1 f] : CP T (n + 3) 260 [.agg R1] = (Jg f).map fun r=>.b r:=by
 obtain ⟨rfl⟩:=H1
 rw [Qh]
 simp -dsimp +contextual only [↓evA,eZ,Nat.reduceAdd,Nat.reduceMul,Nat.reduceBEq,Nat.reduceLeDiff,Nat.reduceLT,Tryz.func260,Tryz.f260,QNE,Quv,QeR,Xw]
 try simp only [Jg,eY]
 all_goals rfl
theorem Qir (i) {R1 l} [H1 : EncL QH R1 l] : LP T (n + 4) 235 2 (frm [(0,.imm 8 R1),(3,.i .i64 i)]) [] =
  Jt (run (Vo l) i) (fun (zr : Bool)=>(XE.ret,frm [(2,.b zr)],[])) (fun (zr : Unit)=>(XE.exit 0,frm [(0,.imm 8 (l.map QH))],[])):=by
 obtain ⟨rfl⟩:=H1
 rw [QJ]
 simp -dsimp only [↓evA,evB,Qt,Tryz.func235,Tryz.f235,QEe,Qr4,TP,TZ,Nat.reduceAdd,Nat.reduceMul,Nat.reduceBEq,Nat.reduceLeDiff,Nat.reduceLT]
 apply Qy i
 intro i
 simp -dsimp +contextual only [↓evA,eZ,Nat.reduceAdd,Nat.reduceMul,Nat.reduceBEq,Nat.reduceLeDiff,Nat.reduceLT,QnI]
 try simp only [Vo,eY]
 all_goals rfl
theorem Qgf {R1 l} [H1 : EncL QH R1 l] : CP T (n + 5) 235 [.imm 8 R1] = (Xz l).map fun r=>.b r:=by
 obtain ⟨rfl⟩:=H1
 rw [Qh]
 simp -dsimp +contextual only [↓evA,eZ,Nat.reduceAdd,Nat.reduceMul,Nat.reduceBEq,Nat.reduceLeDiff,Nat.reduceLT,Tryz.func235,Tryz.f235,QEe,Qr4,Qir]
 try simp only [Xz,eY]
 all_goals rfl
theorem Qin (i) {R1 l} [H1 : EncL V1 R1 l] : LP T (n + 2) 248 2 (frm [(0,.imm 2 R1),(3,.i .i64 i)]) [] =
  Jt (run (Zq l) i) (fun (zr : Bool)=>(XE.ret,frm [(2,.b zr)],[])) (fun (zr : Unit)=>(XE.exit 0,frm [(0,.imm 2 (l.map V1))],[])):=by
 obtain ⟨rfl⟩:=H1
 rw [QJ]
 simp -dsimp only [↓evA,evB,Qt,Tryz.func248,Tryz.f248,QDL,QrW,TP,TZ,Nat.reduceAdd,Nat.reduceMul,Nat.reduceBEq,Nat.reduceLeDiff,Nat.reduceLT]
 apply Qy i
 intro i
 simp -dsimp +contextual only [↓evA,eZ,Nat.reduceAdd,Nat.reduceMul,Nat.reduceBEq,Nat.reduceLeDiff,Nat.reduceLT,Xw]
 try simp only [Zq,eY]
 all_goals rfl
theorem QcR {R1 l} [H1 : EncL V1 R1 l] : CP T (n + 3) 248 [.imm 2 R1] = (JB l).map fun r=>.b r:=by
 obtain ⟨rfl⟩:=H1
 rw [Qh]
 simp -dsimp +contextual only [↓evA,eZ,Nat.reduceAdd,Nat.reduceMul,Nat.reduceBEq,Nat.reduceLeDiff,Nat.reduceLT,Tryz.func248,Tryz.f248,QDL,QrW,Qin]
 try simp only [JB,eY]
 all_goals rfl
theorem QgR (i) {R1 l} [H1 : EncL Ve R1 l] : LP T (n + 4) 236 2 (frm [(0,.imm 3 R1),(3,.i .i64 i)]) [] =
  Jt (run (XP l) i) (fun (zr : Bool)=>(XE.ret,frm [(2,.b zr)],[])) (fun (zr : Unit)=>(XE.exit 0,frm [(0,.imm 3 (l.map Ve))],[])):=by
 obtain ⟨rfl⟩:=H1
 rw [QJ]
 simp -dsimp only [↓evA,evB,Qt,Tryz.func236,Tryz.f236,QEf,QqZ,TP,TZ,Nat.reduceAdd,Nat.reduceMul,Nat.reduceBEq,Nat.reduceLeDiff,Nat.reduceLT]
 apply Qy i
 intro i
 simp -dsimp +contextual only [↓evA,eZ,Nat.reduceAdd,Nat.reduceMul,Nat.reduceBEq,Nat.reduceLeDiff,Nat.reduceLT,Xw,QcR]
 try simp only [XP,eY]
 all_goals rfl
theorem Qe6 {R1 l} [H1 : EncL Ve R1 l] : CP T (n + 5) 236 [.imm 3 R1] = (XJ l).map fun r=>.b r:=by
 obtain ⟨rfl⟩:=H1
 rw [Qh]
 simp -dsimp +contextual only [↓evA,eZ,Nat.reduceAdd,Nat.reduceMul,Nat.reduceBEq,Nat.reduceLeDiff,Nat.reduceLT,Tryz.func236,Tryz.f236,QEf,QqZ,QgR]
 try simp only [XJ,eY]
 all_goals rfl
theorem Qis (i k) {R1 l} [H1 : EncL QX R1 l] : LP T (n + 1) 226 7 (frm [(0,.imm 3 R1),(3,.i .i64 i),(4,.i .i64 k)]) [] =
  Jt (run (VZ l i) k) (fun (zr : Bool)=>(XE.ret,frm [(2,.b zr)],[])) (fun (zr : Unit)=>(XE.exit 2,frm [(0,.imm 3 (l.map QX)),(3,.i .i64 i)],[])):=by
 obtain ⟨rfl⟩:=H1
 rw [QJ]
 simp -dsimp only [↓evA,evB,Qt,Tryz.func226,Tryz.f226,Qyu,Qn7,TP,TZ,Nat.reduceAdd,Nat.reduceMul,Nat.reduceBEq,Nat.reduceLeDiff,Nat.reduceLT]
 apply Qy k
 intro k
 simp -dsimp +contextual only [↓evA,eZ,Nat.reduceAdd,Nat.reduceMul,Nat.reduceBEq,Nat.reduceLeDiff,Nat.reduceLT]
 try simp only [VZ,eY]
 all_goals rfl
theorem Qij (i) {R1 l} [H1 : EncL QX R1 l] : LP T (n + 2) 226 2 (frm [(0,.imm 3 R1),(3,.i .i64 i)]) [] =
  Jt (run (QI l) i) (fun (zr : Bool)=>(XE.ret,frm [(2,.b zr)],[])) (fun (zr : Unit)=>(XE.exit 0,frm [(0,.imm 3 (l.map QX))],[])):=by
 obtain ⟨rfl⟩:=H1
 rw [QJ]
 simp -dsimp only [↓evA,evB,Qt,Tryz.func226,Tryz.f226,Qyu,Qn7,TP,TZ,Nat.reduceAdd,Nat.reduceMul,Nat.reduceBEq,Nat.reduceLeDiff,Nat.reduceLT]
 apply Qy i
 intro i
 simp -dsimp +contextual only [↓evA,eZ,Nat.reduceAdd,Nat.reduceMul,Nat.reduceBEq,Nat.reduceLeDiff,Nat.reduceLT,Xw,Qis]
 try simp only [QI,eY]
 all_goals rfl
theorem Qed {R1 l} [H1 : EncL QX R1 l] : CP T (n + 3) 226 [.imm 3 R1] = (V7 l).map fun r=>.b r:=by
 obtain ⟨rfl⟩:=H1
 rw [Qh]
 simp -dsimp +contextual only [↓evA,eZ,Nat.reduceAdd,Nat.reduceMul,Nat.reduceBEq,Nat.reduceLeDiff,Nat.reduceLT,Tryz.func226,Tryz.f226,Qyu,Qn7,Qij]
 try simp only [V7,eY]
 all_goals rfl
theorem Qh1 (i k) {R1 l R2 a} [H1 : EncL Qk R1 l] [H2 : EncR Qk R2 a] : LP T (n + 1) 237 8 (frm [(0,.imm 5 R1),(3,.i .i64 i),(4,.ptr 0 0 0),(5,.i .i64 k)]) [some (Ent.box R2)] =
  Jt (run (X0 l i a) k) (fun (zr : Bool)=>(XE.ret,frm [(2,.b zr)],[])) (fun (zr : Unit)=>(XE.exit 2,frm [(0,.imm 5 (l.map Qk)),(3,.i .i64 i)],[])):=by
 rcases H1,H2 with ⟨⟨rfl⟩,⟨rfl⟩⟩
 rw [QJ]
 simp -dsimp only [↓evA,evB,Qt,Tryz.func237,Tryz.f237,Qzp,QoY,TP,TZ,Nat.reduceAdd,Nat.reduceMul,Nat.reduceBEq,Nat.reduceLeDiff,Nat.reduceLT]
 apply Qy k
 intro k
 simp -dsimp +contextual only [↓evA,eZ,Nat.reduceAdd,Nat.reduceMul,Nat.reduceBEq,Nat.reduceLeDiff,Nat.reduceLT]
 try simp only [X0,eY]
 all_goals rfl
theorem QhE (i) {R1 l} [H1 : EncL Qk R1 l] : LP T (n + 2) 237 2 (frm [(0,.imm 5 R1),(3,.i .i64 i)]) [] =
  Jt (run (VA l) i) (fun (zr : Bool)=>(XE.ret,frm [(2,.b zr)],[])) (fun (zr : Unit)=>(XE.exit 0,frm [(0,.imm 5 (l.map Qk))],[])):=by
 obtain ⟨rfl⟩:=H1
 rw [QJ]
 simp -dsimp only [↓evA,evB,Qt,Tryz.func237,Tryz.f237,Qzp,QoY,TP,TZ,Nat.reduceAdd,Nat.reduceMul,Nat.reduceBEq,Nat.reduceLeDiff,Nat.reduceLT]
 apply Qy i
 intro i
 simp -dsimp +contextual only [↓evA,eZ,Nat.reduceAdd,Nat.reduceMul,Nat.reduceBEq,Nat.reduceLeDiff,Nat.reduceLT,Xw,Qh1]
 try simp only [VA,eY]
 all_goals rfl
theorem QdN {R1 l} [H1 : EncL Qk R1 l] : CP T (n + 3) 237 [.imm 5 R1] = (Va l).map fun r=>.b r:=by
 obtain ⟨rfl⟩:=H1
 rw [Qh]
 simp -dsimp +contextual only [↓evA,eZ,Nat.reduceAdd,Nat.reduceMul,Nat.reduceBEq,Nat.reduceLeDiff,Nat.reduceLT,Tryz.func237,Tryz.f237,Qzp,QoY,QhE]
 try simp only [Va,eY]
 all_goals rfl
theorem QnA (a m) : CP T (n + 2) 254 [.i .i64 a,.i .i64 m] = (Qdk a m).map fun r=>.i .i64 r:=by
 rw [Qh]
 simp -dsimp +contextual only [↓evA,eZ,Nat.reduceAdd,Nat.reduceMul,Nat.reduceBEq,Nat.reduceLeDiff,Nat.reduceLT,Tryz.func254,Tryz.f254,QOC,QuB,Xw]
 try simp only [Qdk,eY]
 all_goals rfl
theorem Qnf (d i) {R1 l} [H1 : EncL VO R1 l] : LP T (n + 3) 216 3 (frm [(0,.imm 1 R1),(3,.i .i64 d),(4,.i .i64 i)]) [] =
  (run (XM l) (d,i)).map (fun (zr : Int)=>(XE.exit 0,frm [(3,.i .i64 zr)],[])):=by
 obtain ⟨rfl⟩:=H1
 rw [QJ]
 simp -dsimp only [↓evA,evB,Qt,Tryz.func216,Tryz.f216,QDT,QqP,TP,TZ,Nat.reduceAdd,Nat.reduceMul,Nat.reduceBEq,Nat.reduceLeDiff,Nat.reduceLT]
 apply V2 d i
 intro d i
 simp -dsimp +contextual only [↓evA,eZ,Nat.reduceAdd,Nat.reduceMul,Nat.reduceBEq,Nat.reduceLeDiff,Nat.reduceLT,QnA]
 try simp only [XM,eY]
 all_goals rfl
theorem Qg2 {R1 l} [H1 : EncL VO R1 l] : CP T (n + 4) 216 [.imm 1 R1] = (Z7 l).map fun r=>.i .i64 r:=by
 obtain ⟨rfl⟩:=H1
 rw [Qh]
 simp -dsimp +contextual only [↓evA,eZ,Nat.reduceAdd,Nat.reduceMul,Nat.reduceBEq,Nat.reduceLeDiff,Nat.reduceLT,Tryz.func216,Tryz.f216,QDT,QqP,Qnf]
 try simp only [Z7,eY]
 all_goals rfl
theorem Qgn (b) {R1 a} [H1 : EncR Vj R1 a] : CP T (n + 5) 261 [.i .i64 b,.agg R1] = (JA b a).map fun r=>.i .i64 r:=by
 obtain ⟨rfl⟩:=H1
 rw [Qh]
 simp -dsimp +contextual only [↓evA,eZ,Nat.reduceAdd,Nat.reduceMul,Nat.reduceBEq,Nat.reduceLeDiff,Nat.reduceLT,Tryz.func261,Tryz.f261,QLZ,QuD,Qg2]
 try simp only [JA,eY]
 all_goals rfl
theorem QjY (a b k i) {R1 l} [H1 : EncL Vj R1 l] : LP T (n + 1) 262 3 (frm [(0,.imm 5 R1),(1,.i .i64 a),(2,.i .i64 b),(7,.i .i64 k),(8,.i .i64 i)]) [] =
  (run (J6 l a b) (k,i)).map (fun (zr : Int)=>(XE.exit 0,frm [(7,.i .i64 zr)],[])):=by
 obtain ⟨rfl⟩:=H1
 rw [QJ]
 simp -dsimp only [↓evA,evB,Qt,Tryz.func262,Tryz.f262,QEo,Qq0,TP,TZ,Nat.reduceAdd,Nat.reduceMul,Nat.reduceBEq,Nat.reduceLeDiff,Nat.reduceLT]
 apply V2 k i
 intro k i
 simp -dsimp +contextual only [↓evA,eZ,Nat.reduceAdd,Nat.reduceMul,Nat.reduceBEq,Nat.reduceLeDiff,Nat.reduceLT]
 try simp only [J6,eY]
 all_goals rfl
theorem QgT (a b) {R1 l} [H1 : EncL Vj R1 l] : CP T (n + 2) 262 [.imm 5 R1,.i .i64 a,.i .i64 b] = (Qb7 l a b).map fun r=>.i .i64 r:=by
 obtain ⟨rfl⟩:=H1
 rw [Qh]
 simp -dsimp +contextual only [↓evA,eZ,Nat.reduceAdd,Nat.reduceMul,Nat.reduceBEq,Nat.reduceLeDiff,Nat.reduceLT,Tryz.func262,Tryz.f262,QEo,Qq0,QjY]
 try simp only [Qb7,eY]
 all_goals rfl
theorem Qjx (s i) {R1 l} [H1 : EncL Vj R1 l] : LP T (n + 6) 238 3 (frm [(0,.imm 5 R1),(3,.i .i64 s),(4,.i .i64 i)]) [] =
  Jt (run (Q3 l) (s,i)) (fun (zr : Bool)=>(XE.ret,frm [(2,.b zr)],[])) (fun (zr : Unit)=>(XE.exit 0,frm [(0,.imm 5 (l.map Vj))],[])):=by
 obtain ⟨rfl⟩:=H1
 rw [QJ]
 simp -dsimp only [↓evA,evB,Qt,Tryz.func238,Tryz.f238,QD5,Qqe,TP,TZ,Nat.reduceAdd,Nat.reduceMul,Nat.reduceBEq,Nat.reduceLeDiff,Nat.reduceLT]
 apply V2 s i
 intro s i
 simp -dsimp +contextual only [↓evA,eZ,Nat.reduceAdd,Nat.reduceMul,Nat.reduceBEq,Nat.reduceLeDiff,Nat.reduceLT,Qgn,Xw,QgT]
 try simp only [Q3,eY]
 all_goals rfl
theorem QeC {R1 l} [H1 : EncL Vj R1 l] : CP T (n + 7) 238 [.imm 5 R1] = (VU l).map fun r=>.b r:=by
 obtain ⟨rfl⟩:=H1
 rw [Qh]
 simp -dsimp +contextual only [↓evA,eZ,Nat.reduceAdd,Nat.reduceMul,Nat.reduceBEq,Nat.reduceLeDiff,Nat.reduceLT,Tryz.func238,Tryz.f238,QD5,Qqe,Qjx]
 try simp only [VU,eY]
 all_goals rfl
theorem QgI (i) {R1 l} [H1 : EncL QZ R1 l] : LP T (n + 2) 239 2 (frm [(0,.imm 4 R1),(3,.i .i64 i)]) [] =
  Jt (run (Vg l) i) (fun (zr : Bool)=>(XE.ret,frm [(2,.b zr)],[])) (fun (zr : Unit)=>(XE.exit 0,frm [(0,.imm 4 (l.map QZ))],[])):=by
 obtain ⟨rfl⟩:=H1
 rw [QJ]
 simp -dsimp only [↓evA,evB,Qt,Tryz.func239,Tryz.f239,QEU,Qrd,TP,TZ,Nat.reduceAdd,Nat.reduceMul,Nat.reduceBEq,Nat.reduceLeDiff,Nat.reduceLT]
 apply Qy i
 intro i
 simp -dsimp +contextual only [↓evA,eZ,Nat.reduceAdd,Nat.reduceMul,Nat.reduceBEq,Nat.reduceLeDiff,Nat.reduceLT,Xw]
 try simp only [Vg,eY]
 all_goals rfl
theorem Qe1 {R1 l} [H1 : EncL QZ R1 l] : CP T (n + 3) 239 [.imm 4 R1] = (VY l).map fun r=>.b r:=by
 obtain ⟨rfl⟩:=H1
 rw [Qh]
 simp -dsimp +contextual only [↓evA,eZ,Nat.reduceAdd,Nat.reduceMul,Nat.reduceBEq,Nat.reduceLeDiff,Nat.reduceLT,Tryz.func239,Tryz.f239,QEU,Qrd,QgI]
 try simp only [VY,eY]
 all_goals rfl
theorem Qlr (a k) {R1 l} [H1 : EncL VO R1 l] : LP T (n + 1) 270 2 (frm [(0,.imm 1 R1),(1,.i .i64 a),(5,.i .i64 k)]) [] =
  (run (Zp l a) k).map (fun (zr : Int)=>(XE.exit 0,frm [(0,.imm 1 (l.map VO)),(1,.i .i64 a),(5,.i .i64 zr)],[])):=by
 obtain ⟨rfl⟩:=H1
 rw [QJ]
 simp -dsimp only [↓evA,evB,Qt,Tryz.func270,Tryz.f270,QEd,QrN,TP,TZ,Nat.reduceAdd,Nat.reduceMul,Nat.reduceBEq,Nat.reduceLeDiff,Nat.reduceLT]
 apply Qy k
 intro k
 simp -dsimp +contextual only [↓evA,eZ,Nat.reduceAdd,Nat.reduceMul,Nat.reduceBEq,Nat.reduceLeDiff,Nat.reduceLT]
 try simp only [Zp,eY]
 try simp only [List.contains_nil,Bool.not_false,Bool.and_true,VC,List.length_append,List.length_cons,List.length_nil,Nat.zero_add,Vy,VP]
 all_goals rfl
theorem Qo1 (a) {R1 l} [H1 : EncL VO R1 l] : CP T (n + 2) 270 [.imm 1 R1,.i .i64 a] = (Qc3 l a).map fun r=>.own 1 (r.map VO):=by
 obtain ⟨rfl⟩:=H1
 rw [Qh]
 simp -dsimp +contextual only [↓evA,eZ,Nat.reduceAdd,Nat.reduceMul,Nat.reduceBEq,Nat.reduceLeDiff,Nat.reduceLT,Tryz.func270,Tryz.f270,QEd,QrN,Qlr]
 try simp only [Qc3,eY]
 try simp only [List.contains_nil,Bool.not_false,Bool.and_true,VC,List.length_append,List.length_cons,List.length_nil,Nat.zero_add,Vy,VP]
 all_goals first | rfl | (simp +contextual only [evN] <;> rfl)
theorem Qj1 (a i) {R1 l R2 o} [H1 : EncL Vj R1 l] [H2 : EncL VO R2 o] : LP T (n + 8) 263 3 (frm [(0,.imm 5 R1),(1,.i .i64 a),(5,.sl 0),(6,.i .i64 i)]) [some (Ent.lst 1 R2)] =
  (run (ZY l a) (o,i)).map (fun (zr : (List Int))=>(XE.exit 0,frm [(5,.sl 0)],[some (Ent.lst 1 (zr.map VO))])):=by
 rcases H1,H2 with ⟨⟨rfl⟩,⟨rfl⟩⟩
 rw [QJ]
 simp -dsimp only [↓evA,evB,Qt,Tryz.func263,Tryz.f263,QDX,QqN,TP,TZ,Nat.reduceAdd,Nat.reduceMul,Nat.reduceBEq,Nat.reduceLeDiff,Nat.reduceLT]
 apply V2 o i
 intro o i
 simp -dsimp +contextual only [↓evA,eZ,Nat.reduceAdd,Nat.reduceMul,Nat.reduceBEq,Nat.reduceLeDiff,Nat.reduceLT,QeC,QgT,Qo1]
 try simp only [ZY,eY]
 all_goals rfl
theorem Qnd (a) {R1 l} [H1 : EncL Vj R1 l] : CP T (n + 9) 263 [.imm 5 R1,.i .i64 a] = (Qbe l a).map fun r=>.own 1 (r.map VO):=by
 obtain ⟨rfl⟩:=H1
 rw [Qh]
 simp -dsimp +contextual only [↓evA,eZ,Nat.reduceAdd,Nat.reduceMul,Nat.reduceBEq,Nat.reduceLeDiff,Nat.reduceLT,Tryz.func263,Tryz.f263,QDX,QqN,Qj1]
 try simp only [Qbe,eY]
 all_goals first | rfl | (simp +contextual only [evN] <;> rfl)
theorem QhC (i i2) {R1 l} [H1 : EncL QH R1 l] : LP T (n + 1) 195 2 (frm [(0,.imm 8 R1),(1,.i .i64 i),(5,.i .i64 i2)]) [] =
  Jt (run (JU l i) i2) (fun (zr : Int)=>(XE.ret,frm [(4,.i .i64 zr)],[])) (fun (zr : Unit)=>(XE.exit 0,frm [],[])):=by
 obtain ⟨rfl⟩:=H1
 rw [QJ]
 simp -dsimp only [↓evA,evB,Qt,Tryz.func195,Tryz.f195,QEn,Qqx,TP,TZ,Nat.reduceAdd,Nat.reduceMul,Nat.reduceBEq,Nat.reduceLeDiff,Nat.reduceLT]
 apply Qy i2
 intro i2
 simp -dsimp +contextual only [↓evA,eZ,Nat.reduceAdd,Nat.reduceMul,Nat.reduceBEq,Nat.reduceLeDiff,Nat.reduceLT]
 try simp only [JU,eY]
 all_goals rfl
theorem Qcf (i) {R1 l} [H1 : EncL QH R1 l] : CP T (n + 2) 195 [.imm 8 R1,.i .i64 i] = (XB l i).map fun r=>.i .i64 r:=by
 obtain ⟨rfl⟩:=H1
 rw [Qh]
 simp -dsimp +contextual only [↓evA,eZ,Nat.reduceAdd,Nat.reduceMul,Nat.reduceBEq,Nat.reduceLeDiff,Nat.reduceLT,Tryz.func195,Tryz.f195,QEn,Qqx,QhC]
 try simp only [XB,eY]
 all_goals rfl
theorem Qkt (a i) {R1 l} [H1 : EncL QX R1 l] : LP T (n + 1) 192 2 (frm [(0,.imm 3 R1),(1,.i .i64 a),(5,.i .i64 i)]) [] =
  Jt (run (Jd l a) i) (fun (zr : Int)=>(XE.ret,frm [(4,.i .i64 zr)],[])) (fun (zr : Unit)=>(XE.exit 0,frm [],[])):=by
 obtain ⟨rfl⟩:=H1
 rw [QJ]
 simp -dsimp only [↓evA,evB,Qt,Tryz.func192,Tryz.f192,QEP,Qr0,TP,TZ,Nat.reduceAdd,Nat.reduceMul,Nat.reduceBEq,Nat.reduceLeDiff,Nat.reduceLT]
 apply Qy i
 intro i
 simp -dsimp +contextual only [↓evA,eZ,Nat.reduceAdd,Nat.reduceMul,Nat.reduceBEq,Nat.reduceLeDiff,Nat.reduceLT]
 try simp only [Jd,eY]
 all_goals rfl
theorem QdT (a) {R1 l} [H1 : EncL QX R1 l] : CP T (n + 2) 192 [.imm 3 R1,.i .i64 a] = (JJ l a).map fun r=>.i .i64 r:=by
 obtain ⟨rfl⟩:=H1
 rw [Qh]
 simp -dsimp +contextual only [↓evA,eZ,Nat.reduceAdd,Nat.reduceMul,Nat.reduceBEq,Nat.reduceLeDiff,Nat.reduceLT,Tryz.func192,Tryz.f192,QEP,Qr0,Qkt]
 try simp only [JJ,eY]
 all_goals rfl
theorem QlF (a i) {R1 l} [H1 : EncL VO R1 l] : LP T (n + 1) 264 2 (frm [(0,.imm 1 R1),(1,.i .i64 a),(5,.i .i64 i)]) [] =
  Jt (run (QbH l a) i) (fun (zr : Bool)=>(XE.ret,frm [(4,.b zr)],[])) (fun (zr : Unit)=>(XE.exit 0,frm [],[])):=by
 obtain ⟨rfl⟩:=H1
 rw [QJ]
 simp -dsimp only [↓evA,evB,Qt,Tryz.func264,Tryz.f264,QDQ,Qrk,TP,TZ,Nat.reduceAdd,Nat.reduceMul,Nat.reduceBEq,Nat.reduceLeDiff,Nat.reduceLT]
 apply Qy i
 intro i
 simp -dsimp +contextual only [↓evA,eZ,Nat.reduceAdd,Nat.reduceMul,Nat.reduceBEq,Nat.reduceLeDiff,Nat.reduceLT]
 try simp only [QbH,eY]
 all_goals rfl
theorem Qo6 (a) {R1 l} [H1 : EncL VO R1 l] : CP T (n + 2) 264 [.imm 1 R1,.i .i64 a] = (QeL l a).map fun r=>.b r:=by
 obtain ⟨rfl⟩:=H1
 rw [Qh]
 simp -dsimp +contextual only [↓evA,eZ,Nat.reduceAdd,Nat.reduceMul,Nat.reduceBEq,Nat.reduceLeDiff,Nat.reduceLT,Tryz.func264,Tryz.f264,QDQ,Qrk,QlF]
 try simp only [QeL,eY]
 all_goals rfl
theorem QhO (i2) {R1 a R2 i} [H1 : EncR Q5 R1 a] [H2 : EncL VO R2 i] : LP T (n + 3) 240 5 (frm [(1,.ptr 0 0 0),(3,.sl 1),(4,.i .i64 i2)]) [some (Ent.box R1),some (Ent.lst 1 R2)] =
  Jt (run (XZ a i) i2) (fun (zr : Bool)=>(XE.ret,frm [(2,.b zr)],[])) (fun (zr : Unit)=>(XE.exit 0,frm [(1,.ptr 0 0 0),(3,.sl 1)],[some (Ent.box (Q5 a)),some (Ent.lst 1 (i.map VO))])):=by
 rcases H1,H2 with ⟨⟨rfl⟩,⟨rfl⟩⟩
 rw [QJ]
 simp -dsimp only [↓evA,evB,Qt,Tryz.func240,Tryz.f240,QtT,Qnx,TP,TZ,Nat.reduceAdd,Nat.reduceMul,Nat.reduceBEq,Nat.reduceLeDiff,Nat.reduceLT]
 apply Qy i2
 intro i2
 simp -dsimp +contextual (maxSteps:=100000000) only [↓evA,eZ,Nat.reduceAdd,Nat.reduceMul,Nat.reduceBEq,Nat.reduceLeDiff,Nat.reduceLT,Qcf]
 try simp only [XZ,eY]
 all_goals rfl
theorem QgL (i2) {R1 a R2 i} [H1 : EncR Q5 R1 a] [H2 : EncL VO R2 i] : LP T (n + 3) 240 10 (frm [(1,.ptr 0 0 0),(3,.sl 1),(5,.i .i64 i2)]) [some (Ent.box R1),some (Ent.lst 1 R2)] =
  Jt (run (XO a i) i2) (fun (zr : Bool)=>(XE.ret,frm [(2,.b zr)],[])) (fun (zr : Unit)=>(XE.exit 2,frm [(1,.ptr 0 0 0)],[some (Ent.box (Q5 a))])):=by
 rcases H1,H2 with ⟨⟨rfl⟩,⟨rfl⟩⟩
 rw [QJ]
 simp -dsimp only [↓evA,evB,Qt,Tryz.func240,Tryz.f240,QtT,Qnx,TP,TZ,Nat.reduceAdd,Nat.reduceMul,Nat.reduceBEq,Nat.reduceLeDiff,Nat.reduceLT]
 apply Qy i2
 intro i2
 simp -dsimp +contextual (maxSteps:=100000000) only [↓evA,eZ,Nat.reduceAdd,Nat.reduceMul,Nat.reduceBEq,Nat.reduceLeDiff,Nat.reduceLT,QdT,Qo6]
 try simp only [XO,eY]
 all_goals rfl
theorem Qg7 (i) {R1 a} [H1 : EncR Q5 R1 a] : LP T (n + 3) 240 16 (frm [(1,.ptr 0 0 0),(7,.i .i64 i)]) [some (Ent.box R1)] =
  Jt (run (VK a) i) (fun (zr : Bool)=>(XE.ret,frm [(2,.b zr)],[])) (fun (zr : Unit)=>(XE.exit 4,frm [],[])):=by
 obtain ⟨rfl⟩:=H1
 rw [QJ]
 simp -dsimp only [↓evA,evB,Qt,Tryz.func240,Tryz.f240,QtT,Qnx,TP,TZ,Nat.reduceAdd,Nat.reduceMul,Nat.reduceBEq,Nat.reduceLeDiff,Nat.reduceLT]
 apply Qy i
 intro i
 simp -dsimp +contextual (maxSteps:=100000000) only [↓evA,eZ,Nat.reduceAdd,Nat.reduceMul,Nat.reduceBEq,Nat.reduceLeDiff,Nat.reduceLT,Qcf]
 try simp only [VK,eY]
 all_goals rfl
theorem Qks {R1 a} [H1 : EncR Q5 R1 a] : CP T (n + 10) 240 [.agg R1] = (JC a).map fun r=>.b r:=by
 obtain ⟨rfl⟩:=H1
 rw [Qh]
 simp -dsimp +contextual (maxSteps:=100000000) only [↓evA,eZ,Nat.reduceAdd,Nat.reduceMul,Nat.reduceBEq,Nat.reduceLeDiff,Nat.reduceLT,Tryz.func240,Tryz.f240,QtT,Qnx,Qnd,QhO,QgL,Qg7]
 try simp only [JC,eY]
 all_goals rfl
theorem QgP {R1 a} [H1 : EncR QL R1 a] : CP T (n + 2) 247 [.agg R1] = (Qbd a).map fun r=>.b r:=by
 obtain ⟨rfl⟩:=H1
 rw [Qh]
 simp -dsimp +contextual only [↓evA,eZ,Nat.reduceAdd,Nat.reduceMul,Nat.reduceBEq,Nat.reduceLeDiff,Nat.reduceLT,Tryz.func247,Tryz.f247,QKi,QvD,Xw]
 try simp only [Qbd,eY]
 all_goals rfl
theorem Qjj (a i) {R1 l} [H1 : EncL Ve R1 l] : LP T (n + 1) 213 2 (frm [(0,.imm 3 R1),(1,.i .i64 a),(5,.i .i64 i)]) [] =
  Jt (run (Z6 l a) i) (fun (zr : Int)=>(XE.ret,frm [(4,.i .i64 zr)],[])) (fun (zr : Unit)=>(XE.exit 0,frm [],[])):=by
 obtain ⟨rfl⟩:=H1
 rw [QJ]
 simp -dsimp only [↓evA,evB,Qt,Tryz.func213,Tryz.f213,QEk,Qrw,TP,TZ,Nat.reduceAdd,Nat.reduceMul,Nat.reduceBEq,Nat.reduceLeDiff,Nat.reduceLT]
 apply Qy i
 intro i
 simp -dsimp +contextual only [↓evA,eZ,Nat.reduceAdd,Nat.reduceMul,Nat.reduceBEq,Nat.reduceLeDiff,Nat.reduceLT]
 try simp only [Z6,eY]
 all_goals rfl
theorem QmK (a) {R1 l} [H1 : EncL Ve R1 l] : CP T (n + 2) 213 [.imm 3 R1,.i .i64 a] = (Qew l a).map fun r=>.i .i64 r:=by
 obtain ⟨rfl⟩:=H1
 rw [Qh]
 simp -dsimp +contextual only [↓evA,eZ,Nat.reduceAdd,Nat.reduceMul,Nat.reduceBEq,Nat.reduceLeDiff,Nat.reduceLT,Tryz.func213,Tryz.f213,QEk,Qrw,Qjj]
 try simp only [Qew,eY]
 all_goals rfl
theorem QeO (a) {R1 l} [H1 : EncL Ve R1 l] : CP T (n + 3) 152 [.imm 3 R1,.i .i64 a] = (Qa8 l a).map fun r=>.own 2 (r.map V1):=by
 obtain ⟨rfl⟩:=H1
 rw [Qh]
 simp -dsimp +contextual only [↓evA,eZ,Nat.reduceAdd,Nat.reduceMul,Nat.reduceBEq,Nat.reduceLeDiff,Nat.reduceLT,Tryz.func152,Tryz.f152,QOh,Qui,QmK]
 try simp only [Qa8,eY]
 all_goals first | rfl | (simp +contextual only [evN] <;> rfl)
theorem QfZ (a b) : CP T (n + 1) 69 [.i .i64 a,.i .i64 b] = (Qbw a b).map fun r=>.i .i64 r:=by
 rw [Qh]
 simp -dsimp +contextual only [↓evA,eZ,Nat.reduceAdd,Nat.reduceMul,Nat.reduceBEq,Nat.reduceLeDiff,Nat.reduceLT,Tryz.func69,Tryz.f69,QSM,QAr]
 try simp only [Qbw,eY]
 all_goals rfl
theorem QmR {R1 l} [H1 : EncL V1 R1 l] : CP T (n + 2) 249 [.imm 2 R1] = (Qdr l).map fun r=>.i .i64 r:=by
 obtain ⟨rfl⟩:=H1
 rw [Qh]
 simp -dsimp +contextual only [↓evA,eZ,Nat.reduceAdd,Nat.reduceMul,Nat.reduceBEq,Nat.reduceLeDiff,Nat.reduceLT,Tryz.func249,Tryz.f249,QPS,Qvf,QfZ]
 try simp only [Qdr,eY]
 all_goals rfl
theorem QdF {R1 l R2 a} [H1 : EncL V1 R1 l] [H2 : EncR QL R2 a] : CP T (n + 4) 201 [.imm 2 R1,.agg R2] = (J0 l a).map fun r=>.i .i64 r:=by
 rcases H1,H2 with ⟨⟨rfl⟩,⟨rfl⟩⟩
 rw [Qh]
 simp -dsimp +contextual only [↓evA,eZ,Nat.reduceAdd,Nat.reduceMul,Nat.reduceBEq,Nat.reduceLeDiff,Nat.reduceLT,Tryz.func201,Tryz.f201,QMY,Qt2,QgP,QcR,QmR]
 try simp only [J0,eY]
 all_goals rfl
theorem QhD (i) {R1 a} [H1 : EncR Q5 R1 a] : LP T (n + 5) 241 4 (frm [(1,.ptr 0 0 0),(3,.i .i64 i)]) [some (Ent.box R1)] =
  Jt (run (JT a) i) (fun (zr : Bool)=>(XE.ret,frm [(2,.b zr)],[])) (fun (zr : Unit)=>(XE.exit 0,frm [],[])):=by
 obtain ⟨rfl⟩:=H1
 rw [QJ]
 simp -dsimp only [↓evA,evB,Qt,Tryz.func241,Tryz.f241,QEq,QrM,TP,TZ,Nat.reduceAdd,Nat.reduceMul,Nat.reduceBEq,Nat.reduceLeDiff,Nat.reduceLT]
 apply Qy i
 intro i
 simp -dsimp +contextual (maxSteps:=100000000) only [↓evA,eZ,Nat.reduceAdd,Nat.reduceMul,Nat.reduceBEq,Nat.reduceLeDiff,Nat.reduceLT,Qcf,QgP,QeO,QdF]
 try simp only [JT,eY]
 all_goals rfl
theorem QkF {R1 a} [H1 : EncR Q5 R1 a] : CP T (n + 6) 241 [.agg R1] = (JD a).map fun r=>.b r:=by
 obtain ⟨rfl⟩:=H1
 rw [Qh]
 simp -dsimp +contextual (maxSteps:=100000000) only [↓evA,eZ,Nat.reduceAdd,Nat.reduceMul,Nat.reduceBEq,Nat.reduceLeDiff,Nat.reduceLT,Tryz.func241,Tryz.f241,QEq,QrM,QhD]
 try simp only [JD,eY]
 all_goals rfl
theorem Qdz {R1 a} [H1 : EncR Q5 R1 a] : CP T (n + 11) 181 [.agg R1] = (Vv a).map fun r=>.b r:=by
 obtain ⟨rfl⟩:=H1
 rw [Qh]
 simp -dsimp +contextual (maxSteps:=100000000) only [↓evA,eZ,Nat.reduceAdd,Nat.reduceMul,Nat.reduceBEq,Nat.reduceLeDiff,Nat.reduceLT,Tryz.func181,Tryz.f181,QMV,Qvt,Xw,Qgf,Qe6,Qed,QdN,QeC,Qe1,Qks,QkF]
 try simp only [Vv,eY]
 all_goals rfl
theorem QhR (a i) {R1 l} [H1 : EncL QX R1 l] : LP T (n + 1) 182 3 (frm [(0,.imm 3 R1),(3,.i .i64 a),(4,.i .i64 i)]) [] =
  (run (X5 l) (a,i)).map (fun (zr : Int)=>(XE.exit 0,frm [(3,.i .i64 zr)],[])):=by
 obtain ⟨rfl⟩:=H1
 rw [QJ]
 simp -dsimp only [↓evA,evB,Qt,Tryz.func182,Tryz.f182,QDV,QrF,TP,TZ,Nat.reduceAdd,Nat.reduceMul,Nat.reduceBEq,Nat.reduceLeDiff,Nat.reduceLT]
 apply V2 a i
 intro a i
 simp -dsimp +contextual only [↓evA,eZ,Nat.reduceAdd,Nat.reduceMul,Nat.reduceBEq,Nat.reduceLeDiff,Nat.reduceLT]
 try simp only [X5,eY]
 all_goals rfl
theorem QkU {R1 l} [H1 : EncL QX R1 l] : CP T (n + 2) 182 [.imm 3 R1] = (Qb3 l).map fun r=>.i .i64 r:=by
 obtain ⟨rfl⟩:=H1
 rw [Qh]
 simp -dsimp +contextual only [↓evA,eZ,Nat.reduceAdd,Nat.reduceMul,Nat.reduceBEq,Nat.reduceLeDiff,Nat.reduceLT,Tryz.func182,Tryz.f182,QDV,QrF,QhR]
 try simp only [Qb3,eY]
 all_goals rfl
theorem Qlw (a) {R1 s} [H1 : EncL QX R1 s] : CP T (n + 12) 110 [.i .i64 a,.imm 3 R1] = (QcL a s).map fun r=>.tup [.agg (VW r.1),.b r.2]:=by
 obtain ⟨rfl⟩:=H1
 rw [Qh]
 simp -dsimp +contextual (maxSteps:=100000000) only [↓evA,eZ,Nat.reduceAdd,Nat.reduceMul,Nat.reduceBEq,Nat.reduceLeDiff,Nat.reduceLT,Tryz.func110,Tryz.f110,QQ3,Que,JG,Qdz,QkU]
 try simp only [QcL,eY]
 all_goals rfl
theorem QnV (i) {R1 c} [H1 : EncR VS R1 c] : CA T (n + 3) 128 [some (Ent.box R1)] [.ptr 0 0 0,.i .i64 i] = (Qd3 c i).map fun r=>(.agg (QbY r.2),[some (Ent.box (VS r.1))]):=by
 obtain ⟨rfl⟩:=H1
 rw [Qea]
 simp -dsimp +contextual (maxSteps:=100000000) only [↓evA,eZ,Nat.reduceAdd,Nat.reduceMul,Nat.reduceBEq,Nat.reduceLeDiff,Nat.reduceLT,Tryz.func128,Tryz.f128,QJH,QuP,srt,QY]
 try simp only [Qd3,eY]
 all_goals rfl
theorem Qh7 (i) {R1 c} [H1 : EncR VS R1 c] : CA T (n + 4) 68 [some (Ent.box R1)] [.ptr 0 0 0,.i .i64 i] = (Qdd c i).map fun r=>(.agg (QH r.2),[some (Ent.box (VS r.1))]):=by
 obtain ⟨rfl⟩:=H1
 rw [Qea]
 simp -dsimp +contextual (maxSteps:=100000000) only [↓evA,eZ,Nat.reduceAdd,Nat.reduceMul,Nat.reduceBEq,Nat.reduceLeDiff,Nat.reduceLT,Tryz.func68,Tryz.f68,QVh,QBY,srt,QnV,QY]
 try simp only [Qdd,eY]
 all_goals rfl
theorem J2 {R1 c R2 l} [H1 : EncR VS R1 c] [H2 : EncL VO R2 l] : CA T (n + 3) 37 [some (Ent.box R1),some (Ent.lst 1 R2)] [.ptr 0 0 0,.sl 1] = (VF c l).map fun r=>(.i .i64 r.2,[some (Ent.box (VS r.1)),some (Ent.lst 1 (l.map VO))]):=by
 rcases H1,H2 with ⟨⟨rfl⟩,⟨rfl⟩⟩
 rw [Qea]
 simp -dsimp +contextual (maxSteps:=100000000) only [↓evA,eZ,Nat.reduceAdd,Nat.reduceMul,Nat.reduceBEq,Nat.reduceLeDiff,Nat.reduceLT,Tryz.func37,Tryz.f37,QWJ,QA3,srt,QY]
 try simp only [VF,eY]
 all_goals rfl
theorem Qju (k) {R1 l R2 m} [H1 : EncL V1 R1 l] [H2 : EncR V1 R2 m] : LP T (n + 1) 202 2 (frm [(0,.imm 2 R1),(3,.ptr 0 0 0),(6,.i .i64 k)]) [some (Ent.box R2)] =
  (run (JZ l m) k).map (fun (zr : Int)=>(XE.exit 0,frm [(0,.imm 2 (l.map V1)),(3,.ptr 0 0 0),(6,.i .i64 zr)],[some (Ent.box (V1 m))])):=by
 rcases H1,H2 with ⟨⟨rfl⟩,⟨rfl⟩⟩
 rw [QJ]
 simp -dsimp only [↓evA,evB,Qt,Tryz.func202,Tryz.f202,QDI,Qrz,TP,TZ,Nat.reduceAdd,Nat.reduceMul,Nat.reduceBEq,Nat.reduceLeDiff,Nat.reduceLT]
 apply Qy k
 intro k
 simp -dsimp +contextual only [↓evA,eZ,Nat.reduceAdd,Nat.reduceMul,Nat.reduceBEq,Nat.reduceLeDiff,Nat.reduceLT]
 try simp only [JZ,eY]
 try simp only [List.contains_nil,Bool.not_false,Bool.and_true,VC,List.length_append,List.length_cons,List.length_nil,Nat.zero_add,Vy,VP]
 all_goals rfl
theorem QmB {R1 l R2 m} [H1 : EncL V1 R1 l] [H2 : EncR V1 R2 m] : CP T (n + 4) 202 [.imm 2 R1,.agg R2] = (QdA l m).map fun r=>.tup [.own 2 (r.1.map V1),.b r.2]:=by
 rcases H1,H2 with ⟨⟨rfl⟩,⟨rfl⟩⟩
 rw [Qh]
 simp -dsimp +contextual only [↓evA,eZ,Nat.reduceAdd,Nat.reduceMul,Nat.reduceBEq,Nat.reduceLeDiff,Nat.reduceLT,Tryz.func202,Tryz.f202,QDI,Qrz,QcR,Qju]
 try simp only [QdA,eY]
 try simp only [List.contains_nil,Bool.not_false,Bool.and_true,VC,List.length_append,List.length_cons,List.length_nil,Nat.zero_add,Vy,VP]
 all_goals first | rfl | (simp +contextual only [evN] <;> rfl)
theorem Qkb (i) {R1 c R2 l} [H1 : EncR VS R1 c] [H2 : EncL V1 R2 l] : LP T (n + 5) 129 3 (frm [(0,.ptr 0 0 0),(3,.sl 1),(4,.i .i64 i)]) [some (Ent.box R1),some (Ent.lst 2 R2)] =
  (run ZZ (c,l,i)).map (fun (zr : l1Cur × (List Mark))=>(XE.exit 0,frm [(0,.ptr 0 0 0),(3,.sl 1)],[some (Ent.box (VS zr.1)),some (Ent.lst 2 (zr.2.map V1))])):=by
 rcases H1,H2 with ⟨⟨rfl⟩,⟨rfl⟩⟩
 rw [QJ]
 simp -dsimp only [↓evA,evB,Qt,Tryz.func129,Tryz.f129,QEu,QrY,TP,TZ,Nat.reduceAdd,Nat.reduceMul,Nat.reduceBEq,Nat.reduceLeDiff,Nat.reduceLT]
 apply QdY c l i
 intro c l i
 simp -dsimp +contextual only [↓evA,eZ,Nat.reduceAdd,Nat.reduceMul,Nat.reduceBEq,Nat.reduceLeDiff,Nat.reduceLT,srt,QY,QmB]
 try simp only [ZZ,eY]
 all_goals rfl
theorem Qha {R1 c} [H1 : EncR VS R1 c] : CA T (n + 6) 129 [some (Ent.box R1)] [.ptr 0 0 0] = (Qcn c).map fun r=>(.sl 1,[some (Ent.box (VS r.1)),some (Ent.lst 2 (r.2.map V1))]):=by
 obtain ⟨rfl⟩:=H1
 rw [Qea]
 simp -dsimp +contextual (maxSteps:=100000000) only [↓evA,eZ,Nat.reduceAdd,Nat.reduceMul,Nat.reduceBEq,Nat.reduceLeDiff,Nat.reduceLT,Tryz.func129,Tryz.f129,QEu,QrY,srt,QY,Qkb]
 try simp only [Qcn,eY]
 all_goals rfl
theorem QnP (a) {R1 c} [H1 : EncR VS R1 c] : CA T (n + 7) 188 [some (Ent.box R1)] [.ptr 0 0 0,.i .i64 a] = (Qd5 c a).map fun r=>(.agg [.i .i64 r.2.Thing,.sl 1,.i .i64 r.2.Salt],[some (Ent.box (VS r.1)),some (Ent.lst 2 (r.2.Marks.map V1))]):=by
 obtain ⟨rfl⟩:=H1
 rw [Qea]
 simp -dsimp +contextual (maxSteps:=100000000) only [↓evA,eZ,Nat.reduceAdd,Nat.reduceMul,Nat.reduceBEq,Nat.reduceLeDiff,Nat.reduceLT,Tryz.func188,Tryz.f188,QM6,QuZ,srt,Qha,QY]
 try simp only [Qd5,eY]
 all_goals rfl
end Go.Proofs.YtncpklppoancgaaGreat
