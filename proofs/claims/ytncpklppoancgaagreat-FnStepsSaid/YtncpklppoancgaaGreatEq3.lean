import Derived.Test.YtncpklppoancgaaGreatEq2
namespace Go.Proofs.YtncpklppoancgaaGreat
open Go Go.Proofs Go.Proofs.YtncpklppoancgaaGreat.Am
set_option maxHeartbeats 4000000
set_option linter.unusedVariables false
set_option linter.unusedSimpArgs false
set_option linter.defProp false
set_option maxRecDepth 100000
variable (n : Nat)
theorem Qec {R1 l} [H1 : EncL V1 R1 l] : CP T (n + 3) 100 [.imm 2 R1] = (Qau l).map fun r=>.b r:=by
 obtain ⟨rfl⟩:=H1
 rw [Qh]
 simp -dsimp +contextual only [↓evA,eZ,Nat.reduceAdd,Nat.reduceMul,Nat.reduceBEq,Nat.reduceLeDiff,Nat.reduceLT,Tryz.func100,Tryz.f100,QDJ,QqO,QiN]
 try simp only [Qau,eY]
 all_goals rfl
theorem QgC (a2 a3) {R1 l R2 a} [H1 : EncL Ve R1 l] [H2 : EncL Ve R2 a] : LP T (n + 4) 45 4 (frm [(0,.imm 3 R1),(8,.imm 3 R2),(9,.i .i64 a2),(10,.i .i64 a3)]) [] =
  Jt (run (Jp l a a2) a3) (fun (zr : Bool)=>(XE.ret,frm [(2,.b zr)],[])) (fun (zr : Unit)=>(XE.exit 0,frm [],[])):=by
 rcases H1,H2 with ⟨⟨rfl⟩,⟨rfl⟩⟩
 rw [QJ]
 simp -dsimp only [↓evA,evB,Qt,Tryz.func45,Tryz.f45,QRa,Qx5,TP,TZ,Nat.reduceAdd,Nat.reduceMul,Nat.reduceBEq,Nat.reduceLeDiff,Nat.reduceLT]
 apply Qy a3
 intro a3
 simp -dsimp +contextual only [↓evA,eZ,Nat.reduceAdd,Nat.reduceMul,Nat.reduceBEq,Nat.reduceLeDiff,Nat.reduceLT,Q7,Qec]
 try simp only [Jp,eY]
 all_goals rfl
theorem Qfh {R1 l} [H1 : EncL Ve R1 l] : CP T (n + 5) 45 [.imm 3 R1] = (J1 l).map fun r=>.b r:=by
 obtain ⟨rfl⟩:=H1
 rw [Qh]
 simp -dsimp +contextual only [↓evA,eZ,Nat.reduceAdd,Nat.reduceMul,Nat.reduceBEq,Nat.reduceLeDiff,Nat.reduceLT,Tryz.func45,Tryz.f45,QRa,Qx5,QgC]
 try simp only [J1,eY]
 all_goals rfl
theorem QhT (a2) {R1 l R2 a R3 o} [H1 : EncL Ve R1 l] [H2 : EncR Ve R2 a] [H3 : EncL QC R3 o] : LP T (n + 1) 73 5 (frm [(0,.imm 3 R1),(3,.ptr 0 0 0),(6,.sl 1),(7,.i .i64 a2)]) [some (Ent.box R2),some (Ent.lst 3 R3)] =
  (run (QbR l a o) a2).map (fun (zr : Int)=>(XE.exit 0,frm [(0,.imm 3 (l.map Ve)),(3,.ptr 0 0 0),(6,.sl 1),(7,.i .i64 zr)],[some (Ent.box (Ve a)),some (Ent.lst 3 (o.map QC))])):=by
 rcases H1,H2,H3 with ⟨⟨rfl⟩,⟨rfl⟩,⟨rfl⟩⟩
 rw [QJ]
 simp -dsimp only [↓evA,evB,Qt,Tryz.func73,Tryz.f73,QLT,Qyl,TP,TZ,Nat.reduceAdd,Nat.reduceMul,Nat.reduceBEq,Nat.reduceLeDiff,Nat.reduceLT]
 apply Qy a2
 intro a2
 simp -dsimp +contextual only [↓evA,eZ,Nat.reduceAdd,Nat.reduceMul,Nat.reduceBEq,Nat.reduceLeDiff,Nat.reduceLT,srt]
 try simp only [QbR,eY]
 all_goals rfl
theorem Qkq {R1 l R2 a} [H1 : EncL Ve R1 l] [H2 : EncR Ve R2 a] : CP T (n + 6) 73 [.imm 3 R1,.agg R2] = (QbX l a).map fun r=>.tup [.own 3 (r.1.map QC),.b r.2]:=by
 rcases H1,H2 with ⟨⟨rfl⟩,⟨rfl⟩⟩
 rw [Qh]
 simp -dsimp +contextual only [↓evA,eZ,Nat.reduceAdd,Nat.reduceMul,Nat.reduceBEq,Nat.reduceLeDiff,Nat.reduceLT,Tryz.func73,Tryz.f73,QLT,Qyl,srt,Qek,Qgj,QcE,QCW,Qfh,QhT]
 try simp only [QbX,eY]
 all_goals first | rfl | (simp +contextual only [evN] <;> rfl)
theorem Qj4 (s b a2 a3) {R1 l R2 a} [H1 : EncL QX R1 l] [H2 : EncL QX R2 a] : LP T (n + 1) 140 3 (frm [(0,.imm 3 R1),(1,.i .i64 s),(5,.i .i64 b),(8,.imm 3 R2),(9,.i .i64 a2),(10,.i .i64 a3)]) [] =
  (run (Qbv l s a a2) (b,a3)).map (fun (zr : Int)=>(XE.exit 0,frm [(5,.i .i64 zr)],[])):=by
 rcases H1,H2 with ⟨⟨rfl⟩,⟨rfl⟩⟩
 rw [QJ]
 simp -dsimp only [↓evA,evB,Qt,Tryz.func140,Tryz.f140,QEK,Qr1,TP,TZ,Nat.reduceAdd,Nat.reduceMul,Nat.reduceBEq,Nat.reduceLeDiff,Nat.reduceLT]
 apply V2 b a3
 intro b a3
 simp -dsimp +contextual only [↓evA,eZ,Nat.reduceAdd,Nat.reduceMul,Nat.reduceBEq,Nat.reduceLeDiff,Nat.reduceLT]
 try simp only [Qbv,eY]
 all_goals rfl
theorem QnB (s) {R1 l} [H1 : EncL QX R1 l] : CP T (n + 2) 140 [.imm 3 R1,.i .i64 s] = (Qdw l s).map fun r=>.i .i64 r:=by
 obtain ⟨rfl⟩:=H1
 rw [Qh]
 simp -dsimp +contextual only [↓evA,eZ,Nat.reduceAdd,Nat.reduceMul,Nat.reduceBEq,Nat.reduceLeDiff,Nat.reduceLT,Tryz.func140,Tryz.f140,QEK,Qr1,Qj4]
 try simp only [Qdw,eY]
 all_goals rfl
theorem Qi8 (c) {R1 a} [H1 : EncR QX R1 a] : CP T (n + 1) 107 [.agg R1,.iptr 1 [[.i .i64 c]] 0 0] = (QcT a c).map fun r=>.b r:=by
 obtain ⟨rfl⟩:=H1
 rw [Qh]
 simp -dsimp +contextual only [↓evA,eZ,Nat.reduceAdd,Nat.reduceMul,Nat.reduceBEq,Nat.reduceLeDiff,Nat.reduceLT,Tryz.func107,Tryz.f107,QKd,Qt5]
 try simp only [QcT,eY]
 all_goals rfl
theorem QaZ (f a a2) {R1 s} [H1 : EncL QX R1 s] : LP T (n + 2) 106 2 (frm [(0,.imm 3 R1),(1,.clo 107 [.iptr 1 [[.i .i64 f]] 0 0]),(7,.i .i64 a),(8,.i .i64 a2)]) [] =
  Jt (run (QU s f a) a2) (fun (zr : Int)=>(XE.ret,frm [(4,.i .i64 zr)],[])) (fun (zr : Unit)=>(XE.exit 0,frm [],[])):=by
 obtain ⟨rfl⟩:=H1
 rw [QJ]
 simp -dsimp only [↓evA,evB,Qt,Tryz.func106,Tryz.f106,QEm,Qq7,TP,TZ,Nat.reduceAdd,Nat.reduceMul,Nat.reduceBEq,Nat.reduceLeDiff,Nat.reduceLT]
 apply Qy a2
 intro a2
 simp -dsimp +contextual only [↓evA,eZ,Nat.reduceAdd,Nat.reduceMul,Nat.reduceBEq,Nat.reduceLeDiff,Nat.reduceLT,Qi8]
 try simp only [QU,eY]
 all_goals rfl
theorem QbL (c) {R1 s} [H1 : EncL QX R1 s] : CP T (n + 3) 106 [.imm 3 R1,.clo 107 [.iptr 1 [[.i .i64 c]] 0 0]] = (VJ s c).map fun r=>.i .i64 r:=by
 obtain ⟨rfl⟩:=H1
 rw [Qh]
 simp -dsimp +contextual only [↓evA,eZ,Nat.reduceAdd,Nat.reduceMul,Nat.reduceBEq,Nat.reduceLeDiff,Nat.reduceLT,Tryz.func106,Tryz.f106,QEm,Qq7,QaZ]
 try simp only [VJ,eY]
 all_goals rfl
theorem J9 (a) {R1 l} [H1 : EncL QX R1 l] : CP T (n + 4) 52 [.imm 3 R1,.i .i64 a] = (Xo l a).map fun r=>.i .i64 r:=by
 obtain ⟨rfl⟩:=H1
 rw [Qh]
 simp -dsimp +contextual only [↓evA,eZ,Nat.reduceAdd,Nat.reduceMul,Nat.reduceBEq,Nat.reduceLeDiff,Nat.reduceLT,Tryz.func52,Tryz.f52,QU7,QCn,QbL]
 try simp only [Xo,eY]
 all_goals rfl
theorem QnJ (a) {R1 l} [H1 : EncL QX R1 l] : CP T (n + 5) 43 [.imm 3 R1,.i .i64 a] = (Qc9 l a).map fun r=>.i .i64 r:=by
 obtain ⟨rfl⟩:=H1
 rw [Qh]
 simp -dsimp +contextual only [↓evA,eZ,Nat.reduceAdd,Nat.reduceMul,Nat.reduceBEq,Nat.reduceLeDiff,Nat.reduceLT,Tryz.func43,Tryz.f43,QTI,QDf,J9]
 try simp only [Qc9,eY]
 all_goals rfl
theorem Qiq (a2 a3) {R1 l R2 a} [H1 : EncL QX R1 l] [H2 : EncL QX R2 a] : LP T (n + 6) 8 4 (frm [(0,.imm 3 R1),(8,.imm 3 R2),(9,.i .i64 a2),(10,.i .i64 a3)]) [] =
  Jt (run (Zx l a a2) a3) (fun (zr : Bool)=>(XE.ret,frm [(2,.b zr)],[])) (fun (zr : Unit)=>(XE.exit 0,frm [],[])):=by
 rcases H1,H2 with ⟨⟨rfl⟩,⟨rfl⟩⟩
 rw [QJ]
 simp -dsimp only [↓evA,evB,Qt,Tryz.func8,Tryz.f8,Aa8,An8,TP,TZ,Nat.reduceAdd,Nat.reduceMul,Nat.reduceBEq,Nat.reduceLeDiff,Nat.reduceLT]
 apply Qy a3
 intro a3
 simp -dsimp +contextual only [↓evA,eZ,Nat.reduceAdd,Nat.reduceMul,Nat.reduceBEq,Nat.reduceLeDiff,Nat.reduceLT,Q7,QnJ]
 try simp only [Zx,eY]
 all_goals rfl
theorem Qeh {R1 l} [H1 : EncL QX R1 l] : CP T (n + 7) 8 [.imm 3 R1] = (Zj l).map fun r=>.b r:=by
 obtain ⟨rfl⟩:=H1
 rw [Qh]
 simp -dsimp +contextual only [↓evA,eZ,Nat.reduceAdd,Nat.reduceMul,Nat.reduceBEq,Nat.reduceLeDiff,Nat.reduceLT,Tryz.func8,Tryz.f8,Aa8,An8,Qiq]
 try simp only [Zj,eY]
 all_goals rfl
theorem Qm5 {R1 l R2 a} [H1 : EncL QX R1 l] [H2 : EncR QbY R2 a] : CP T (n + 8) 74 [.imm 3 R1,.agg R2] = (Qcj l a).map fun r=>.tup [.own 3 (r.1.map QX),.b r.2]:=by
 rcases H1,H2 with ⟨⟨rfl⟩,⟨rfl⟩⟩
 rw [Qh]
 simp -dsimp +contextual only [↓evA,eZ,Nat.reduceAdd,Nat.reduceMul,Nat.reduceBEq,Nat.reduceLeDiff,Nat.reduceLT,Tryz.func74,Tryz.f74,QTi,QCl,QcD,QnB,Qeh,QeA,J9]
 try simp only [Qcj,eY]
 all_goals first | rfl | (simp +contextual only [evN] <;> rfl)
theorem Qtc (p q) : CP T (n + 2) 258 [.i .i64 p,.i .i64 q] = (Qdl p q).map fun r=>.i .i64 r:=by
 rw [Qh]
 simp -dsimp +contextual only [↓evA,eZ,Nat.reduceAdd,Nat.reduceMul,Nat.reduceBEq,Nat.reduceLeDiff,Nat.reduceLT,Tryz.func258,Tryz.f258,QNU,QvI,Q7]
 try simp only [Qdl,eY]
 all_goals rfl
theorem QqJ (a v) : CP T (n + 3) 228 [.i .i64 a,.i .i64 v] = (Qhj a v).map fun r=>.i .i64 r:=by
 rw [Qh]
 simp -dsimp +contextual only [↓evA,eZ,Nat.reduceAdd,Nat.reduceMul,Nat.reduceBEq,Nat.reduceLeDiff,Nat.reduceLT,Tryz.func228,Tryz.f228,QPZ,QtJ,Qtc]
 try simp only [Qhj,eY]
 all_goals rfl
theorem Qmg (a a3 a4) {R1 a2} [H1 : EncL VO R1 a2] : LP T (n + 4) 166 3 (frm [(3,.i .i64 a),(6,.imm 1 R1),(7,.i .i64 a3),(8,.i .i64 a4)]) [] =
  (run (Qdm a2 a3) (a,a4)).map (fun (zr : Int)=>(XE.exit 0,frm [(3,.i .i64 zr)],[])):=by
 obtain ⟨rfl⟩:=H1
 rw [QJ]
 simp -dsimp only [↓evA,evB,Qt,Tryz.func166,Tryz.f166,QDH,Qp3,TP,TZ,Nat.reduceAdd,Nat.reduceMul,Nat.reduceBEq,Nat.reduceLeDiff,Nat.reduceLT]
 apply V2 a a4
 intro a a4
 simp -dsimp +contextual only [↓evA,eZ,Nat.reduceAdd,Nat.reduceMul,Nat.reduceBEq,Nat.reduceLeDiff,Nat.reduceLT,QqJ]
 try simp only [Qdm,eY]
 all_goals rfl
theorem Qk2 {R1 v} [H1 : EncL VO R1 v] : CP T (n + 5) 166 [.imm 1 R1] = (QdO v).map fun r=>.i .i64 r:=by
 obtain ⟨rfl⟩:=H1
 rw [Qh]
 simp -dsimp +contextual only [↓evA,eZ,Nat.reduceAdd,Nat.reduceMul,Nat.reduceBEq,Nat.reduceLeDiff,Nat.reduceLT,Tryz.func166,Tryz.f166,QDH,Qp3,Qmg]
 try simp only [QdO,eY]
 all_goals rfl
theorem Qgi (b) {R1 a} [H1 : EncR Vj R1 a] : CP T (n + 6) 101 [.i .i64 b,.agg R1] = (Ju b a).map fun r=>.i .i64 r:=by
 obtain ⟨rfl⟩:=H1
 rw [Qh]
 simp -dsimp +contextual only [↓evA,eZ,Nat.reduceAdd,Nat.reduceMul,Nat.reduceBEq,Nat.reduceLeDiff,Nat.reduceLT,Tryz.func101,Tryz.f101,QNK,QtK,Qk2]
 try simp only [Ju,eY]
 all_goals rfl
theorem QiH (a i) {R1 l} [H1 : EncL Vj R1 l] : LP T (n + 1) 54 2 (frm [(0,.imm 5 R1),(1,.i .i64 a),(5,.i .i64 i)]) [] =
  Jt (run (QaK l a) i) (fun (zr : Int)=>(XE.ret,frm [(4,.i .i64 zr)],[])) (fun (zr : Unit)=>(XE.exit 0,frm [],[])):=by
 obtain ⟨rfl⟩:=H1
 rw [QJ]
 simp -dsimp only [↓evA,evB,Qt,Tryz.func54,Tryz.f54,QMq,Qze,TP,TZ,Nat.reduceAdd,Nat.reduceMul,Nat.reduceBEq,Nat.reduceLeDiff,Nat.reduceLT]
 apply Qy i
 intro i
 simp -dsimp +contextual only [↓evA,eZ,Nat.reduceAdd,Nat.reduceMul,Nat.reduceBEq,Nat.reduceLeDiff,Nat.reduceLT]
 try simp only [QaK,eY]
 all_goals rfl
theorem Qeg (a) {R1 l} [H1 : EncL Vj R1 l] : CP T (n + 2) 54 [.imm 5 R1,.i .i64 a] = (Zo l a).map fun r=>.i .i64 r:=by
 obtain ⟨rfl⟩:=H1
 rw [Qh]
 simp -dsimp +contextual only [↓evA,eZ,Nat.reduceAdd,Nat.reduceMul,Nat.reduceBEq,Nat.reduceLeDiff,Nat.reduceLT,Tryz.func54,Tryz.f54,QMq,Qze,QiH]
 try simp only [Zo,eY]
 all_goals rfl
theorem QiW (b a2 a3) {R1 l R2 a} [H1 : EncL Vj R1 l] [H2 : EncL Vj R2 a] : LP T (n + 7) 47 5 (frm [(0,.imm 5 R1),(3,.i .i64 b),(10,.imm 5 R2),(11,.i .i64 a2),(12,.i .i64 a3)]) [] =
  Jt (run (J4 l a a2) (b,a3)) (fun (zr : Bool)=>(XE.ret,frm [(2,.b zr)],[])) (fun (zr : Unit)=>(XE.exit 0,frm [],[])):=by
 rcases H1,H2 with ⟨⟨rfl⟩,⟨rfl⟩⟩
 rw [QJ]
 simp -dsimp only [↓evA,evB,Qt,Tryz.func47,Tryz.f47,QP0,QAg,TP,TZ,Nat.reduceAdd,Nat.reduceMul,Nat.reduceBEq,Nat.reduceLeDiff,Nat.reduceLT]
 apply V2 b a3
 intro b a3
 simp -dsimp +contextual only [↓evA,eZ,Nat.reduceAdd,Nat.reduceMul,Nat.reduceBEq,Nat.reduceLeDiff,Nat.reduceLT,Q7,Qgi,Qeg]
 try simp only [J4,eY]
 all_goals rfl
theorem QeK {R1 l} [H1 : EncL Vj R1 l] : CP T (n + 8) 47 [.imm 5 R1] = (Xq l).map fun r=>.b r:=by
 obtain ⟨rfl⟩:=H1
 rw [Qh]
 simp -dsimp +contextual only [↓evA,eZ,Nat.reduceAdd,Nat.reduceMul,Nat.reduceBEq,Nat.reduceLeDiff,Nat.reduceLT,Tryz.func47,Tryz.f47,QP0,QAg,QiW]
 try simp only [Xq,eY]
 all_goals rfl
theorem QgE {R1 l R2 a} [H1 : EncL Vj R1 l] [H2 : EncR Vj R2 a] : CP T (n + 9) 75 [.imm 5 R1,.agg R2] = (Qcl l a).map fun r=>.tup [.own 5 (r.1.map Vj),.b r.2]:=by
 rcases H1,H2 with ⟨⟨rfl⟩,⟨rfl⟩⟩
 rw [Qh]
 simp -dsimp +contextual only [↓evA,eZ,Nat.reduceAdd,Nat.reduceMul,Nat.reduceBEq,Nat.reduceLeDiff,Nat.reduceLT,Tryz.func75,Tryz.f75,QUp,QDw,Qgi,Qen,QeK]
 try simp only [Qcl,eY]
 try simp only [List.contains_nil,Bool.not_false,Bool.and_true,VC,List.length_append,List.length_cons,List.length_nil,Nat.zero_add,Vy,VP]
 all_goals first | rfl | (simp +contextual only [evN] <;> rfl)
theorem Qf5 (v a a2) {R1 s} [H1 : EncL c_b R1 s] : LP T (n + 1) 209 2 (frm [(0,.imm 1 R1),(1,.b v),(7,.i .i64 a),(8,.i .i64 a2)]) [] =
  Jt (run (XT s v a) a2) (fun (zr : Int)=>(XE.ret,frm [(4,.i .i64 zr)],[])) (fun (zr : Unit)=>(XE.exit 0,frm [],[])):=by
 obtain ⟨rfl⟩:=H1
 rw [QJ]
 simp -dsimp only [↓evA,evB,Qt,Tryz.func209,Tryz.f209,QDO,QrL,TP,TZ,Nat.reduceAdd,Nat.reduceMul,Nat.reduceBEq,Nat.reduceLeDiff,Nat.reduceLT]
 apply Qy a2
 intro a2
 simp -dsimp +contextual only [↓evA,eZ,Nat.reduceAdd,Nat.reduceMul,Nat.reduceBEq,Nat.reduceLeDiff,Nat.reduceLT]
 try simp only [XT,eY]
 all_goals rfl
theorem QhI (v) {R1 s} [H1 : EncL c_b R1 s] : CP T (n + 2) 209 [.imm 1 R1,.b v] = (QbM s v).map fun r=>.i .i64 r:=by
 obtain ⟨rfl⟩:=H1
 rw [Qh]
 simp -dsimp +contextual only [↓evA,eZ,Nat.reduceAdd,Nat.reduceMul,Nat.reduceBEq,Nat.reduceLeDiff,Nat.reduceLT,Tryz.func209,Tryz.f209,QDO,QrL,Qf5]
 try simp only [QbM,eY]
 all_goals rfl
theorem Qa7 (v) {R1 s} [H1 : EncL c_b R1 s] : CP T (n + 3) 142 [.imm 1 R1,.b v] = (V3 s v).map fun r=>.b r:=by
 obtain ⟨rfl⟩:=H1
 rw [Qh]
 simp -dsimp +contextual only [↓evA,eZ,Nat.reduceAdd,Nat.reduceMul,Nat.reduceBEq,Nat.reduceLeDiff,Nat.reduceLT,Tryz.func142,Tryz.f142,QN1,Qu3,QhI]
 try simp only [V3,eY]
 all_goals rfl
theorem QhX (a3 a4 a6 a7) {R1 l R2 a R3 a2 R4 a5} [H1 : EncL Qk R1 l] [H2 : EncR Qk R2 a] [H3 : EncL Qk R3 a2] [H4 : EncL Qk R4 a5] : LP T (n + 1) 46 9 (frm [(0,.imm 5 R1),(4,.ptr 0 0 0),(10,.imm 5 R3),(11,.i .i64 a3),(12,.i .i64 a4),(62,.imm 5 R4),(63,.i .i64 a6),(64,.i .i64 a7)]) [some (Ent.box R2)] =
  Jt (run (X2 l a a2 a3 a4 a5 a6) a7) (fun (zr : Bool)=>(XE.ret,frm [(2,.b zr)],[])) (fun (zr : Unit)=>(XE.exit 2,frm [(0,.imm 5 (l.map Qk)),(10,.imm 5 (a2.map Qk)),(11,.i .i64 a3),(12,.i .i64 a4)],[])):=by
 rcases H1,H2,H3,H4 with ⟨⟨rfl⟩,⟨rfl⟩,⟨rfl⟩,⟨rfl⟩⟩
 rw [QJ]
 simp -dsimp only [↓evA,evB,Qt,Tryz.func46,Tryz.f46,QGo,Qwp,TP,TZ,Nat.reduceAdd,Nat.reduceMul,Nat.reduceBEq,Nat.reduceLeDiff,Nat.reduceLT]
 apply Qy a7
 intro a7
 simp -dsimp +contextual only [↓evA,eZ,Nat.reduceAdd,Nat.reduceMul,Nat.reduceBEq,Nat.reduceLeDiff,Nat.reduceLT]
 try simp only [X2,eY]
 all_goals rfl
theorem QhW (a2 a3) {R1 l R2 a} [H1 : EncL Qk R1 l] [H2 : EncL Qk R2 a] : LP T (n + 2) 46 4 (frm [(0,.imm 5 R1),(10,.imm 5 R2),(11,.i .i64 a2),(12,.i .i64 a3)]) [] =
  Jt (run (JS l a a2) a3) (fun (zr : Bool)=>(XE.ret,frm [(2,.b zr)],[])) (fun (zr : Unit)=>(XE.exit 0,frm [],[])):=by
 rcases H1,H2 with ⟨⟨rfl⟩,⟨rfl⟩⟩
 rw [QJ]
 simp -dsimp only [↓evA,evB,Qt,Tryz.func46,Tryz.f46,QGo,Qwp,TP,TZ,Nat.reduceAdd,Nat.reduceMul,Nat.reduceBEq,Nat.reduceLeDiff,Nat.reduceLT]
 apply Qy a3
 intro a3
 simp -dsimp +contextual only [↓evA,eZ,Nat.reduceAdd,Nat.reduceMul,Nat.reduceBEq,Nat.reduceLeDiff,Nat.reduceLT,Q7,QhX]
 try simp only [JS,eY]
 all_goals rfl
theorem QdL {R1 l} [H1 : EncL Qk R1 l] : CP T (n + 3) 46 [.imm 5 R1] = (XD l).map fun r=>.b r:=by
 obtain ⟨rfl⟩:=H1
 rw [Qh]
 simp -dsimp +contextual only [↓evA,eZ,Nat.reduceAdd,Nat.reduceMul,Nat.reduceBEq,Nat.reduceLeDiff,Nat.reduceLT,Tryz.func46,Tryz.f46,QGo,Qwp,QhW]
 try simp only [XD,eY]
 all_goals rfl
theorem QgY (a2 a3) {R1 l R2 a} [H1 : EncL QZ R1 l] [H2 : EncL QZ R2 a] : LP T (n + 2) 48 4 (frm [(0,.imm 4 R1),(8,.imm 4 R2),(9,.i .i64 a2),(10,.i .i64 a3)]) [] =
  Jt (run (Js l a a2) a3) (fun (zr : Bool)=>(XE.ret,frm [(2,.b zr)],[])) (fun (zr : Unit)=>(XE.exit 0,frm [],[])):=by
 rcases H1,H2 with ⟨⟨rfl⟩,⟨rfl⟩⟩
 rw [QJ]
 simp -dsimp only [↓evA,evB,Qt,Tryz.func48,Tryz.f48,QMZ,QyM,TP,TZ,Nat.reduceAdd,Nat.reduceMul,Nat.reduceBEq,Nat.reduceLeDiff,Nat.reduceLT]
 apply Qy a3
 intro a3
 simp -dsimp +contextual only [↓evA,eZ,Nat.reduceAdd,Nat.reduceMul,Nat.reduceBEq,Nat.reduceLeDiff,Nat.reduceLT,Q7]
 try simp only [Js,eY]
 all_goals rfl
theorem QbS {R1 l} [H1 : EncL QZ R1 l] : CP T (n + 3) 48 [.imm 4 R1] = (XK l).map fun r=>.b r:=by
 obtain ⟨rfl⟩:=H1
 rw [Qh]
 simp -dsimp +contextual only [↓evA,eZ,Nat.reduceAdd,Nat.reduceMul,Nat.reduceBEq,Nat.reduceLeDiff,Nat.reduceLT,Tryz.func48,Tryz.f48,QMZ,QyM,QgY]
 try simp only [XK,eY]
 all_goals rfl
theorem Qjq (a a3 a4) {R1 l R2 o R3 a2} [H1 : EncL Vj R1 l] [H2 : EncL VO R2 o] [H3 : EncL Vj R3 a2] : LP T (n + 3) 14 5 (frm [(0,.imm 5 R1),(1,.i .i64 a),(5,.sl 0),(13,.imm 5 R3),(14,.i .i64 a3),(15,.i .i64 a4)]) [some (Ent.lst 1 R2)] =
  (run (Z4 l a a2 a3) (o,a4)).map (fun (zr : (List Int))=>(XE.exit 0,frm [(5,.sl 0)],[some (Ent.lst 1 (zr.map VO))])):=by
 rcases H1,H2,H3 with ⟨⟨rfl⟩,⟨rfl⟩,⟨rfl⟩⟩
 rw [QJ]
 simp -dsimp only [↓evA,evB,Qt,Tryz.func14,Tryz.f14,QM1,QyO,TP,TZ,Nat.reduceAdd,Nat.reduceMul,Nat.reduceBEq,Nat.reduceLeDiff,Nat.reduceLT]
 apply V2 o a4
 intro o a4
 simp -dsimp +contextual only [↓evA,eZ,Nat.reduceAdd,Nat.reduceMul,Nat.reduceBEq,Nat.reduceLeDiff,Nat.reduceLT,srt,Qeg]
 try simp only [Z4,eY]
 all_goals rfl
theorem Qno (a) {R1 l} [H1 : EncL Vj R1 l] : CP T (n + 9) 14 [.imm 5 R1,.i .i64 a] = (QdG l a).map fun r=>.own 1 (r.map VO):=by
 obtain ⟨rfl⟩:=H1
 rw [Qh]
 simp -dsimp +contextual only [↓evA,eZ,Nat.reduceAdd,Nat.reduceMul,Nat.reduceBEq,Nat.reduceLeDiff,Nat.reduceLT,Tryz.func14,Tryz.f14,QM1,QyO,srt,QeK,Qjq]
 try simp only [QdG,eY]
 all_goals first | rfl | (simp +contextual only [evN] <;> rfl)
theorem Qgr (v a a2) {R1 s} [H1 : EncL VO R1 s] : LP T (n + 1) 167 2 (frm [(0,.imm 1 R1),(1,.i .i64 v),(7,.i .i64 a),(8,.i .i64 a2)]) [] =
  Jt (run (Je s v a) a2) (fun (zr : Int)=>(XE.ret,frm [(4,.i .i64 zr)],[])) (fun (zr : Unit)=>(XE.exit 0,frm [],[])):=by
 obtain ⟨rfl⟩:=H1
 rw [QJ]
 simp -dsimp only [↓evA,evB,Qt,Tryz.func167,Tryz.f167,QEJ,Qqk,TP,TZ,Nat.reduceAdd,Nat.reduceMul,Nat.reduceBEq,Nat.reduceLeDiff,Nat.reduceLT]
 apply Qy a2
 intro a2
 simp -dsimp +contextual only [↓evA,eZ,Nat.reduceAdd,Nat.reduceMul,Nat.reduceBEq,Nat.reduceLeDiff,Nat.reduceLT]
 try simp only [Je,eY]
 all_goals rfl
theorem QiD (v) {R1 s} [H1 : EncL VO R1 s] : CP T (n + 2) 167 [.imm 1 R1,.i .i64 v] = (Qcc s v).map fun r=>.i .i64 r:=by
 obtain ⟨rfl⟩:=H1
 rw [Qh]
 simp -dsimp +contextual only [↓evA,eZ,Nat.reduceAdd,Nat.reduceMul,Nat.reduceBEq,Nat.reduceLeDiff,Nat.reduceLT,Tryz.func167,Tryz.f167,QEJ,Qqk,Qgr]
 try simp only [Qcc,eY]
 all_goals rfl
theorem Qgv (v) {R1 s} [H1 : EncL VO R1 s] : CP T (n + 3) 102 [.imm 1 R1,.i .i64 v] = (Ze s v).map fun r=>.b r:=by
 obtain ⟨rfl⟩:=H1
 rw [Qh]
 simp -dsimp +contextual only [↓evA,eZ,Nat.reduceAdd,Nat.reduceMul,Nat.reduceBEq,Nat.reduceLeDiff,Nat.reduceLT,Tryz.func102,Tryz.f102,QKT,Qt0,QiD]
 try simp only [Ze,eY]
 all_goals rfl
theorem Qjo (a3 a4) {R1 a R2 i R3 a2} [H1 : EncR Q5 R1 a] [H2 : EncL VO R2 i] [H3 : EncL QH R3 a2] : LP T (n + 5) 49 5 (frm [(1,.ptr 0 0 0),(3,.sl 1),(23,.imm 8 R3),(24,.i .i64 a3),(25,.i .i64 a4)]) [some (Ent.box R1),some (Ent.lst 1 R2)] =
  Jt (run (ZW a i a2 a3) a4) (fun (zr : Bool)=>(XE.ret,frm [(2,.b zr)],[])) (fun (zr : Unit)=>(XE.exit 0,frm [(1,.ptr 0 0 0),(3,.sl 1)],[some (Ent.box (Q5 a)),some (Ent.lst 1 (i.map VO))])):=by
 rcases H1,H2,H3 with ⟨⟨rfl⟩,⟨rfl⟩,⟨rfl⟩⟩
 rw [QJ]
 simp -dsimp only [↓evA,evB,Qt,Tryz.func49,Tryz.f49,QAD,Qs9,TP,TZ,Nat.reduceAdd,Nat.reduceMul,Nat.reduceBEq,Nat.reduceLeDiff,Nat.reduceLT]
 apply Qy a4
 intro a4
 simp -dsimp +contextual (maxSteps:=100000000) only [↓evA,eZ,Nat.reduceAdd,Nat.reduceMul,Nat.reduceBEq,Nat.reduceLeDiff,Nat.reduceLT,J9,Qgv]
 try simp only [ZW,eY]
 all_goals rfl
theorem QiO (a3 a4) {R1 a R2 i R3 a2} [H1 : EncR Q5 R1 a] [H2 : EncL VO R2 i] [H3 : EncL QX R3 a2] : LP T (n + 5) 49 11 (frm [(1,.ptr 0 0 0),(3,.sl 1),(57,.imm 3 R3),(58,.i .i64 a3),(59,.i .i64 a4)]) [some (Ent.box R1),some (Ent.lst 1 R2)] =
  Jt (run (ZD a i a2 a3) a4) (fun (zr : Bool)=>(XE.ret,frm [(2,.b zr)],[])) (fun (zr : Unit)=>(XE.exit 2,frm [(1,.ptr 0 0 0),(3,.sl 1)],[some (Ent.box (Q5 a)),some (Ent.lst 1 (i.map VO))])):=by
 rcases H1,H2,H3 with ⟨⟨rfl⟩,⟨rfl⟩,⟨rfl⟩⟩
 rw [QJ]
 simp -dsimp only [↓evA,evB,Qt,Tryz.func49,Tryz.f49,QAD,Qs9,TP,TZ,Nat.reduceAdd,Nat.reduceMul,Nat.reduceBEq,Nat.reduceLeDiff,Nat.reduceLT]
 apply Qy a4
 intro a4
 simp -dsimp +contextual (maxSteps:=100000000) only [↓evA,eZ,Nat.reduceAdd,Nat.reduceMul,Nat.reduceBEq,Nat.reduceLeDiff,Nat.reduceLT,QaX]
 try simp only [ZD,eY]
 all_goals rfl
theorem QiQ (a3 a4) {R1 a R2 a2} [H1 : EncR Q5 R1 a] [H2 : EncL VO R2 a2] : LP T (n + 5) 49 17 (frm [(1,.ptr 0 0 0),(75,.sl 1),(76,.i .i64 a3),(77,.i .i64 a4)]) [some (Ent.box R1),some (Ent.lst 1 R2)] =
  Jt (run (Zv a a2 a3) a4) (fun (zr : Bool)=>(XE.ret,frm [(2,.b zr)],[])) (fun (zr : Unit)=>(XE.exit 4,frm [],[])):=by
 rcases H1,H2 with ⟨⟨rfl⟩,⟨rfl⟩⟩
 rw [QJ]
 simp -dsimp only [↓evA,evB,Qt,Tryz.func49,Tryz.f49,QAD,Qs9,TP,TZ,Nat.reduceAdd,Nat.reduceMul,Nat.reduceBEq,Nat.reduceLeDiff,Nat.reduceLT]
 apply Qy a4
 intro a4
 simp -dsimp +contextual (maxSteps:=100000000) only [↓evA,eZ,Nat.reduceAdd,Nat.reduceMul,Nat.reduceBEq,Nat.reduceLeDiff,Nat.reduceLT,QaX]
 try simp only [Zv,eY]
 all_goals rfl
theorem Qnw {R1 a} [H1 : EncR Q5 R1 a] : CP T (n + 10) 49 [.agg R1] = (Qa5 a).map fun r=>.b r:=by
 obtain ⟨rfl⟩:=H1
 rw [Qh]
 simp -dsimp +contextual (maxSteps:=100000000) only [↓evA,eZ,Nat.reduceAdd,Nat.reduceMul,Nat.reduceBEq,Nat.reduceLeDiff,Nat.reduceLT,Tryz.func49,Tryz.f49,QAD,Qs9,Qno,Qjo,QiO,QiQ]
 try simp only [Qa5,eY]
 all_goals rfl
theorem QgB {R1 a} [H1 : EncR QL R1 a] : CP T (n + 2) 104 [.agg R1] = (Qcr a).map fun r=>.b r:=by
 obtain ⟨rfl⟩:=H1
 rw [Qh]
 simp -dsimp +contextual only [↓evA,eZ,Nat.reduceAdd,Nat.reduceMul,Nat.reduceBEq,Nat.reduceLeDiff,Nat.reduceLT,Tryz.func104,Tryz.f104,QOd,QuC,Q7]
 try simp only [Qcr,eY]
 all_goals rfl
theorem Qg4 (a) {R1 l} [H1 : EncL Ve R1 l] : CP T (n + 5) 81 [.imm 3 R1,.i .i64 a] = (Qcq l a).map fun r=>.own 2 (r.map V1):=by
 obtain ⟨rfl⟩:=H1
 rw [Qh]
 simp -dsimp +contextual only [↓evA,eZ,Nat.reduceAdd,Nat.reduceMul,Nat.reduceBEq,Nat.reduceLeDiff,Nat.reduceLT,Tryz.func81,Tryz.f81,QSU,QAT,Qgj,QcE]
 try simp only [Qcq,eY]
 all_goals first | rfl | (simp +contextual only [evN] <;> rfl)
theorem Ql5 {R1 l} [H1 : EncL V1 R1 l] : CP T (n + 1) 157 [.imm 2 R1] = (Qcs l).map fun r=>.i .i64 r:=by
 obtain ⟨rfl⟩:=H1
 rw [Qh]
 simp -dsimp +contextual only [↓evA,eZ,Nat.reduceAdd,Nat.reduceMul,Nat.reduceBEq,Nat.reduceLeDiff,Nat.reduceLT,Tryz.func157,Tryz.f157,QKv,Qut]
 try simp only [Qcs,eY]
 all_goals rfl
theorem Qds {R1 l R2 a} [H1 : EncL V1 R1 l] [H2 : EncR QL R2 a] : CP T (n + 4) 83 [.imm 2 R1,.agg R2] = (J7 l a).map fun r=>.i .i64 r:=by
 rcases H1,H2 with ⟨⟨rfl⟩,⟨rfl⟩⟩
 rw [Qh]
 simp -dsimp +contextual only [↓evA,eZ,Nat.reduceAdd,Nat.reduceMul,Nat.reduceBEq,Nat.reduceLeDiff,Nat.reduceLT,Tryz.func83,Tryz.f83,QWl,QCJ,QgB,Qec,Ql5]
 try simp only [J7,eY]
 all_goals rfl
theorem QnY (s) : CP T (n + 1) 105 [.i .i64 s] = (Qc7 s).map fun r=>.i .i64 r:=by
 rw [Qh]
 simp -dsimp +contextual only [↓evA,eZ,Nat.reduceAdd,Nat.reduceMul,Nat.reduceBEq,Nat.reduceLeDiff,Nat.reduceLT,Tryz.func105,Tryz.f105,QJu,Qve]
 try simp only [Qc7,eY]
 all_goals rfl
theorem QhF (a3 a4) {R1 a R2 a2} [H1 : EncR Q5 R1 a] [H2 : EncL Qk R2 a2] : LP T (n + 6) 50 4 (frm [(1,.ptr 0 0 0),(14,.imm 5 R2),(15,.i .i64 a3),(16,.i .i64 a4)]) [some (Ent.box R1)] =
  Jt (run (Vq a a2 a3) a4) (fun (zr : Bool)=>(XE.ret,frm [(2,.b zr)],[])) (fun (zr : Unit)=>(XE.exit 0,frm [],[])):=by
 rcases H1,H2 with ⟨⟨rfl⟩,⟨rfl⟩⟩
 rw [QJ]
 simp -dsimp only [↓evA,evB,Qt,Tryz.func50,Tryz.f50,QJ5,Qya,TP,TZ,Nat.reduceAdd,Nat.reduceMul,Nat.reduceBEq,Nat.reduceLeDiff,Nat.reduceLT]
 apply Qy a4
 intro a4
 simp -dsimp +contextual (maxSteps:=100000000) only [↓evA,eZ,Nat.reduceAdd,Nat.reduceMul,Nat.reduceBEq,Nat.reduceLeDiff,Nat.reduceLT,QaX,QgB,Qg4,Qds,QnY]
 try simp only [Vq,eY]
 all_goals rfl
theorem Qkk {R1 a} [H1 : EncR Q5 R1 a] : CP T (n + 7) 50 [.agg R1] = (Xm a).map fun r=>.b r:=by
 obtain ⟨rfl⟩:=H1
 rw [Qh]
 simp -dsimp +contextual (maxSteps:=100000000) only [↓evA,eZ,Nat.reduceAdd,Nat.reduceMul,Nat.reduceBEq,Nat.reduceLeDiff,Nat.reduceLT,Tryz.func50,Tryz.f50,QJ5,Qya,QhF]
 try simp only [Xm,eY]
 all_goals rfl
theorem Qkz (a2 a4 a5) {R1 a R2 a3} [H1 : EncR Q5 R1 a] [H2 : EncL QH R2 a3] : LP T (n + 1) 51 3 (frm [(1,.ptr 0 0 0),(3,.i .i64 a2),(13,.imm 8 R2),(14,.i .i64 a4),(15,.i .i64 a5)]) [some (Ent.box R1)] =
  (run (QaV a a3 a4) (a2,a5)).map (fun (zr : Int)=>(XE.exit 0,frm [(1,.ptr 0 0 0),(3,.i .i64 zr)],[some (Ent.box (Q5 a))])):=by
 rcases H1,H2 with ⟨⟨rfl⟩,⟨rfl⟩⟩
 rw [QJ]
 simp -dsimp only [↓evA,evB,Qt,Tryz.func51,Tryz.f51,QyU,Qr7,TP,TZ,Nat.reduceAdd,Nat.reduceMul,Nat.reduceBEq,Nat.reduceLeDiff,Nat.reduceLT]
 apply V2 a2 a5
 intro a2 a5
 simp -dsimp +contextual (maxSteps:=100000000) only [↓evA,eZ,Nat.reduceAdd,Nat.reduceMul,Nat.reduceBEq,Nat.reduceLeDiff,Nat.reduceLT]
 try simp only [QaV,eY]
 all_goals rfl
theorem Qki (a2 a4 a5) {R1 a R2 a3} [H1 : EncR Q5 R1 a] [H2 : EncL Qk R2 a3] : LP T (n + 1) 51 8 (frm [(1,.ptr 0 0 0),(3,.i .i64 a2),(25,.imm 5 R2),(26,.i .i64 a4),(27,.i .i64 a5)]) [some (Ent.box R1)] =
  (run (QaS a a3 a4) (a2,a5)).map (fun (zr : Int)=>(XE.exit 2,frm [(1,.ptr 0 0 0),(3,.i .i64 zr)],[some (Ent.box (Q5 a))])):=by
 rcases H1,H2 with ⟨⟨rfl⟩,⟨rfl⟩⟩
 rw [QJ]
 simp -dsimp only [↓evA,evB,Qt,Tryz.func51,Tryz.f51,QyU,Qr7,TP,TZ,Nat.reduceAdd,Nat.reduceMul,Nat.reduceBEq,Nat.reduceLeDiff,Nat.reduceLT]
 apply V2 a2 a5
 intro a2 a5
 simp -dsimp +contextual (maxSteps:=100000000) only [↓evA,eZ,Nat.reduceAdd,Nat.reduceMul,Nat.reduceBEq,Nat.reduceLeDiff,Nat.reduceLT]
 try simp only [QaS,eY]
 all_goals rfl
theorem Qjf (a2 a4 a5) {R1 a R2 a3} [H1 : EncR Q5 R1 a] [H2 : EncL Vj R2 a3] : LP T (n + 1) 51 13 (frm [(1,.ptr 0 0 0),(3,.i .i64 a2),(37,.imm 5 R2),(38,.i .i64 a4),(39,.i .i64 a5)]) [some (Ent.box R1)] =
  (run (Z5 a a3 a4) (a2,a5)).map (fun (zr : Int)=>(XE.exit 4,frm [(1,.ptr 0 0 0),(3,.i .i64 zr)],[some (Ent.box (Q5 a))])):=by
 rcases H1,H2 with ⟨⟨rfl⟩,⟨rfl⟩⟩
 rw [QJ]
 simp -dsimp only [↓evA,evB,Qt,Tryz.func51,Tryz.f51,QyU,Qr7,TP,TZ,Nat.reduceAdd,Nat.reduceMul,Nat.reduceBEq,Nat.reduceLeDiff,Nat.reduceLT]
 apply V2 a2 a5
 intro a2 a5
 simp -dsimp +contextual (maxSteps:=100000000) only [↓evA,eZ,Nat.reduceAdd,Nat.reduceMul,Nat.reduceBEq,Nat.reduceLeDiff,Nat.reduceLT]
 try simp only [Z5,eY]
 all_goals rfl
theorem QiX (a a3 a4) {R1 a2} [H1 : EncL QZ R1 a2] : LP T (n + 1) 51 18 (frm [(3,.i .i64 a),(49,.imm 4 R1),(50,.i .i64 a3),(51,.i .i64 a4)]) [] =
  (run (Z8 a2 a3) (a,a4)).map (fun (zr : Int)=>(XE.exit 6,frm [(3,.i .i64 zr)],[])):=by
 obtain ⟨rfl⟩:=H1
 rw [QJ]
 simp -dsimp only [↓evA,evB,Qt,Tryz.func51,Tryz.f51,QyU,Qr7,TP,TZ,Nat.reduceAdd,Nat.reduceMul,Nat.reduceBEq,Nat.reduceLeDiff,Nat.reduceLT]
 apply V2 a a4
 intro a a4
 simp -dsimp +contextual only [↓evA,eZ,Nat.reduceAdd,Nat.reduceMul,Nat.reduceBEq,Nat.reduceLeDiff,Nat.reduceLT]
 try simp only [Z8,eY]
 all_goals rfl
theorem Qn2 {R1 a} [H1 : EncR Q5 R1 a] : CP T (n + 2) 51 [.agg R1] = (QdZ a).map fun r=>.i .i64 r:=by
 obtain ⟨rfl⟩:=H1
 rw [Qh]
 simp -dsimp +contextual (maxSteps:=100000000) only [↓evA,eZ,Nat.reduceAdd,Nat.reduceMul,Nat.reduceBEq,Nat.reduceLeDiff,Nat.reduceLT,Tryz.func51,Tryz.f51,QyU,Qr7,Qkz,Qki,Qjf,QiX]
 try simp only [QdZ,eY]
 all_goals rfl
theorem Qr {R1 a} [H1 : EncR Q5 R1 a] : CP T (n + 11) 10 [.agg R1] = (QD a).map fun r=>.b r:=by
 obtain ⟨rfl⟩:=H1
 rw [Qh]
 simp -dsimp +contextual (maxSteps:=100000000) only [↓evA,eZ,Nat.reduceAdd,Nat.reduceMul,Nat.reduceBEq,Nat.reduceLeDiff,Nat.reduceLT,Tryz.func10,Tryz.f10,QVw,QBz,Q7,Qgk,Qfh,Qeh,QdL,QeK,QbS,Qnw,Qkk,Qn2]
 try simp only [QD,eY]
 all_goals rfl
theorem QaT (oxNo oxNow) {R1 a R2 oxFinds R3 oxSecrets R4 oxSlots R5 oxClaims R6 oxTrials R7 oxChain R8 oxBook R9 d} [H1 : EncR Q5 R1 a] [H2 : EncL QH R2 oxFinds] [H3 : EncL QC R3 oxSecrets] [H4 : EncL QX R4 oxSlots] [H5 : EncL Qk R5 oxClaims] [H6 : EncL QL R6 oxTrials] [H7 : EncL Vj R7 oxChain] [H8 : EncL QZ R8 oxBook] [H9 : EncL c_b R9 d] : CM T (n + 12) 76 [some (Ent.lst 8 R2),some (Ent.lst 3 R3),some (Ent.lst 3 R4),some (Ent.lst 5 R5),some (Ent.lst 4 R6),some (Ent.lst 5 R7),some (Ent.lst 4 R8),some (Ent.lst 1 R9)] [.agg R1,.agg [.i .i64 oxNo,.sl 0,.sl 1,.sl 2,.sl 3,.sl 4,.sl 5,.sl 6,.i .i64 oxNow],.sl 7] = (VV a (⟨oxNo,oxFinds,oxSecrets,oxSlots,oxClaims,oxTrials,oxChain,oxBook,oxNow⟩ : House) d).map fun r=>.tup [.agg (VW r.1),.b r.2]:=by
 rcases H1,H2,H3,H4,H5,H6,H7,H8,H9 with ⟨⟨rfl⟩,⟨rfl⟩,⟨rfl⟩,⟨rfl⟩,⟨rfl⟩,⟨rfl⟩,⟨rfl⟩,⟨rfl⟩,⟨rfl⟩⟩
 rw [Qok]
 simp -dsimp +contextual (maxSteps:=100000000) only [↓evA,eZ,Nat.reduceAdd,Nat.reduceMul,Nat.reduceBEq,Nat.reduceLeDiff,Nat.reduceLT,Tryz.func76,Tryz.f76,QIk,Qw0,Qa7,Qr,VI]
 try simp only [VV,eY]
 all_goals rfl
theorem QlG (s) {R1 a R2 f R3 m} [H1 : EncR Q5 R1 a] [H2 : EncR QH R2 f] [H3 : EncL V1 R3 m] : CP T (n + 13) 20 [.agg R1,.agg R2,.imm 2 R3,.i .i64 s] = (QcG a f m s).map fun r=>.tup [.agg (VW r.1),.b r.2]:=by
 rcases H1,H2,H3 with ⟨⟨rfl⟩,⟨rfl⟩,⟨rfl⟩⟩
 rw [Qh]
 simp -dsimp +contextual (maxSteps:=100000000) only [↓evA,eZ,Nat.reduceAdd,Nat.reduceMul,Nat.reduceBEq,Nat.reduceLeDiff,Nat.reduceLT,Tryz.func20,Tryz.f20,QTe,QDt,srt,VI,Ql6,Qkq,Qm5,QgE,QaT]
 try simp only [QcG,eY]
 all_goals rfl
theorem QgJ {R1 c} [H1 : EncL Qdg R1 c] : CP T (n + 17) 21 [.imm 1 R1] = (ZF c).map fun r=>.tup [.agg (VW r.1),.i .i64 r.2.1,.i .i64 r.2.2.1,.i .i64 r.2.2.2]:=by
 obtain ⟨rfl⟩:=H1
 rw [Qh]
 simp -dsimp +contextual (maxSteps:=100000000) only [↓evA,eZ,Nat.reduceAdd,Nat.reduceMul,Nat.reduceBEq,Nat.reduceLeDiff,Nat.reduceLT,Tryz.func21,Tryz.f21,QRA,QCx,srt,Qbh,ZN,J2,QY]
 try simp only [ZF,eY]
 try simp only [List.contains_nil,Bool.not_false,Bool.and_true,VC,List.length_append,List.length_cons,List.length_nil,Nat.zero_add,Vy,VP]
 all_goals rfl
theorem QiJ (c) {R1 a} [H1 : EncR Qk R1 a] : CP T (n + 1) 149 [.agg R1,.iptr 1 [[.i .i64 c]] 0 0] = (Qcd a c).map fun r=>.b r:=by
 obtain ⟨rfl⟩:=H1
 rw [Qh]
 simp -dsimp +contextual only [↓evA,eZ,Nat.reduceAdd,Nat.reduceMul,Nat.reduceBEq,Nat.reduceLeDiff,Nat.reduceLT,Tryz.func149,Tryz.f149,QOo,Qu0]
 try simp only [Qcd,eY]
 all_goals rfl
theorem Qax (f a a2) {R1 s} [H1 : EncL Qk R1 s] : LP T (n + 2) 148 2 (frm [(0,.imm 5 R1),(1,.clo 149 [.iptr 1 [[.i .i64 f]] 0 0]),(7,.i .i64 a),(8,.i .i64 a2)]) [] =
  Jt (run (QK s f a) a2) (fun (zr : Int)=>(XE.ret,frm [(4,.i .i64 zr)],[])) (fun (zr : Unit)=>(XE.exit 0,frm [],[])):=by
 obtain ⟨rfl⟩:=H1
 rw [QJ]
 simp -dsimp only [↓evA,evB,Qt,Tryz.func148,Tryz.f148,Qoe,QjQ,TP,TZ,Nat.reduceAdd,Nat.reduceMul,Nat.reduceBEq,Nat.reduceLeDiff,Nat.reduceLT]
 apply Qy a2
 intro a2
 simp -dsimp +contextual only [↓evA,eZ,Nat.reduceAdd,Nat.reduceMul,Nat.reduceBEq,Nat.reduceLeDiff,Nat.reduceLT,QiJ]
 try simp only [QK,eY]
 all_goals rfl
theorem Qbf (c) {R1 s} [H1 : EncL Qk R1 s] : CP T (n + 3) 148 [.imm 5 R1,.clo 149 [.iptr 1 [[.i .i64 c]] 0 0]] = (VD s c).map fun r=>.i .i64 r:=by
 obtain ⟨rfl⟩:=H1
 rw [Qh]
 simp -dsimp +contextual only [↓evA,eZ,Nat.reduceAdd,Nat.reduceMul,Nat.reduceBEq,Nat.reduceLeDiff,Nat.reduceLT,Tryz.func148,Tryz.f148,Qoe,QjQ,Qax]
 try simp only [VD,eY]
 all_goals rfl
theorem QaY (i) {R1 l} [H1 : EncL Qk R1 l] : CP T (n + 4) 79 [.imm 5 R1,.i .i64 i] = (XF l i).map fun r=>.i .i64 r:=by
 obtain ⟨rfl⟩:=H1
 rw [Qh]
 simp -dsimp +contextual only [↓evA,eZ,Nat.reduceAdd,Nat.reduceMul,Nat.reduceBEq,Nat.reduceLeDiff,Nat.reduceLT,Tryz.func79,Tryz.f79,QRE,QCu,Qbf]
 try simp only [XF,eY]
 all_goals rfl
theorem Qi2 {R1 a R2 c} [H1 : EncR Qk R1 a] [H2 : EncR Qk R2 c] : CP T (n + 1) 144 [.agg R1,.iptr 5 [R2] 0 0] = (QcX a c).map fun r=>.b r:=by
 rcases H1,H2 with ⟨⟨rfl⟩,⟨rfl⟩⟩
 rw [Qh]
 simp -dsimp +contextual only [↓evA,eZ,Nat.reduceAdd,Nat.reduceMul,Nat.reduceBEq,Nat.reduceLeDiff,Nat.reduceLT,Tryz.func144,Tryz.f144,QMe,Qvm]
 try simp only [QcX,eY]
 all_goals rfl
theorem QaU (a a2) {R1 s R2 f} [H1 : EncL Qk R1 s] [H2 : EncR Qk R2 f] : LP T (n + 2) 148 2 (frm [(0,.imm 5 R1),(1,.clo 144 [.iptr 5 [R2] 0 0]),(7,.i .i64 a),(8,.i .i64 a2)]) [] =
  Jt (run (QM s f a) a2) (fun (zr : Int)=>(XE.ret,frm [(4,.i .i64 zr)],[])) (fun (zr : Unit)=>(XE.exit 0,frm [],[])):=by
 rcases H1,H2 with ⟨⟨rfl⟩,⟨rfl⟩⟩
 rw [QJ]
 simp -dsimp only [↓evA,evB,Qt,Tryz.func148,Tryz.f148,Qoe,QjQ,TP,TZ,Nat.reduceAdd,Nat.reduceMul,Nat.reduceBEq,Nat.reduceLeDiff,Nat.reduceLT]
 apply Qy a2
 intro a2
 simp -dsimp +contextual only [↓evA,eZ,Nat.reduceAdd,Nat.reduceMul,Nat.reduceBEq,Nat.reduceLeDiff,Nat.reduceLT,Qi2]
 try simp only [QM,eY]
 all_goals rfl
theorem Qbq {R1 s R2 c} [H1 : EncL Qk R1 s] [H2 : EncR Qk R2 c] : CP T (n + 3) 148 [.imm 5 R1,.clo 144 [.iptr 5 [R2] 0 0]] = (VH s c).map fun r=>.i .i64 r:=by
 rcases H1,H2 with ⟨⟨rfl⟩,⟨rfl⟩⟩
 rw [Qh]
 simp -dsimp +contextual only [↓evA,eZ,Nat.reduceAdd,Nat.reduceMul,Nat.reduceBEq,Nat.reduceLeDiff,Nat.reduceLT,Tryz.func148,Tryz.f148,Qoe,QjQ,QaU]
 try simp only [VH,eY]
 all_goals rfl
theorem QaH {R1 s R2 c} [H1 : EncL Qk R1 s] [H2 : EncR Qk R2 c] : CP T (n + 4) 143 [.imm 5 R1,.clo 144 [.iptr 5 [R2] 0 0]] = (Q8 s c).map fun r=>.b r:=by
 rcases H1,H2 with ⟨⟨rfl⟩,⟨rfl⟩⟩
 rw [Qh]
 simp -dsimp +contextual only [↓evA,eZ,Nat.reduceAdd,Nat.reduceMul,Nat.reduceBEq,Nat.reduceLeDiff,Nat.reduceLT,Tryz.func143,Tryz.f143,QD2,Qqg,Qbq]
 try simp only [Q8,eY]
 all_goals rfl
theorem Qiv (a2) {R1 l R2 a R3 o} [H1 : EncL Qk R1 l] [H2 : EncR Qk R2 a] [H3 : EncL Qk R3 o] : LP T (n + 1) 77 5 (frm [(0,.imm 5 R1),(3,.ptr 0 0 0),(6,.sl 1),(7,.i .i64 a2)]) [some (Ent.box R2),some (Ent.lst 5 R3)] =
  (run (Zu l a o) a2).map (fun (zr : Int)=>(XE.exit 0,frm [(0,.imm 5 (l.map Qk)),(3,.ptr 0 0 0),(6,.sl 1),(7,.i .i64 zr)],[some (Ent.box (Qk a)),some (Ent.lst 5 (o.map Qk))])):=by
 rcases H1,H2,H3 with ⟨⟨rfl⟩,⟨rfl⟩,⟨rfl⟩⟩
 rw [QJ]
 simp -dsimp only [↓evA,evB,Qt,Tryz.func77,Tryz.f77,QNC,Qxl,TP,TZ,Nat.reduceAdd,Nat.reduceMul,Nat.reduceBEq,Nat.reduceLeDiff,Nat.reduceLT]
 apply Qy a2
 intro a2
 simp -dsimp +contextual only [↓evA,eZ,Nat.reduceAdd,Nat.reduceMul,Nat.reduceBEq,Nat.reduceLeDiff,Nat.reduceLT,srt]
 try simp only [Zu,eY]
 all_goals rfl
theorem Qls {R1 l R2 a} [H1 : EncL Qk R1 l] [H2 : EncR Qk R2 a] : CP T (n + 5) 77 [.imm 5 R1,.agg R2] = (QcH l a).map fun r=>.tup [.own 5 (r.1.map Qk),.b r.2]:=by
 rcases H1,H2 with ⟨⟨rfl⟩,⟨rfl⟩⟩
 rw [Qh]
 simp -dsimp +contextual only [↓evA,eZ,Nat.reduceAdd,Nat.reduceMul,Nat.reduceBEq,Nat.reduceLeDiff,Nat.reduceLT,Tryz.func77,Tryz.f77,QNC,Qxl,srt,Qb5,QaY,QaH,QBR,QdL,Qiv]
 try simp only [QcH,eY]
 all_goals first | rfl | (simp +contextual only [evN] <;> rfl)
theorem Qjk (oxNo oxNow) {R1 a R2 oxFinds R3 oxSecrets R4 oxSlots R5 oxClaims R6 oxTrials R7 oxChain R8 oxBook} [H1 : EncR Q5 R1 a] [H2 : EncL QH R2 oxFinds] [H3 : EncL QC R3 oxSecrets] [H4 : EncL QX R4 oxSlots] [H5 : EncL Qk R5 oxClaims] [H6 : EncL QL R6 oxTrials] [H7 : EncL Vj R7 oxChain] [H8 : EncL QZ R8 oxBook] : CM T (n + 12) 76 [some (Ent.lst 8 R2),some (Ent.lst 3 R3),some (Ent.lst 3 R4),some (Ent.lst 5 R5),some (Ent.lst 4 R6),some (Ent.lst 5 R7),some (Ent.lst 4 R8)] [.agg R1,.agg [.i .i64 oxNo,.sl 0,.sl 1,.sl 2,.sl 3,.sl 4,.sl 5,.sl 6,.i .i64 oxNow],.nil] = (Qbr a (⟨oxNo,oxFinds,oxSecrets,oxSlots,oxClaims,oxTrials,oxChain,oxBook,oxNow⟩ : House)).map fun r=>.tup [.agg (VW r.1),.b r.2]:=by
 rcases H1,H2,H3,H4,H5,H6,H7,H8 with ⟨⟨rfl⟩,⟨rfl⟩,⟨rfl⟩,⟨rfl⟩,⟨rfl⟩,⟨rfl⟩,⟨rfl⟩,⟨rfl⟩⟩
 rw [Qok]
 simp -dsimp +contextual (maxSteps:=100000000) only [↓evA,eZ,Nat.reduceAdd,Nat.reduceMul,Nat.reduceBEq,Nat.reduceLeDiff,Nat.reduceLT,Tryz.func76,Tryz.f76,QIk,Qw0,Qa7,Qr,VI]
 try simp only [Qbr,eY]
 all_goals rfl
theorem Qkg (i w a2) {R1 a} [H1 : EncR Q5 R1 a] : CP T (n + 13) 22 [.agg R1,.i .i64 i,.i .i64 w,.i .i64 a2] = (QbU a i w a2).map fun r=>.tup [.agg (VW r.1),.b r.2]:=by
 obtain ⟨rfl⟩:=H1
 rw [Qh]
 simp -dsimp +contextual (maxSteps:=100000000) only [↓evA,eZ,Nat.reduceAdd,Nat.reduceMul,Nat.reduceBEq,Nat.reduceLeDiff,Nat.reduceLT,Tryz.func22,Tryz.f22,QSR,QCq,srt,VI,Qls,Qr,J9,QaY,QGa,Qjk]
 try simp only [QbU,eY]
 try simp only [List.contains_nil,Bool.not_false,Bool.and_true,VC,List.length_append,List.length_cons,List.length_nil,Nat.zero_add,Vy,VP]
 all_goals rfl
end Go.Proofs.YtncpklppoancgaaGreat
