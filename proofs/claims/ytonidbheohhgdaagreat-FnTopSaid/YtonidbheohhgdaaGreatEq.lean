import Derived.Test.YtonidbheohhgdaaGreatEq3
namespace Go.Proofs.YtonidbheohhgdaaGreat
open Go Go.Proofs Go.Proofs.YtonidbheohhgdaaGreat.Am
set_option maxHeartbeats 4000000
set_option linter.unusedVariables false
set_option linter.unusedSimpArgs false
set_option linter.defProp false
set_option maxRecDepth 100000
variable (n : Nat)
theorem Qbn {R1 s R2 c} [H1 : EncL Qs R1 s] [H2 : EncR QcB R2 c] : CP T (n + 3) 143 [.imm 5 R1,.clo 72 [.iptr 5 [R2] 0 0]] = (VE s c).map fun r=>.i .i64 r:=by
 rcases H1,H2 with ⟨⟨rfl⟩,⟨rfl⟩⟩
 rw [Qg]
 simp -dsimp +contextual only [↓evA,eZ,Nat.reduceAdd,Nat.reduceMul,Nat.reduceBEq,Nat.reduceLeDiff,Nat.reduceLT,Tryz.func143,Tryz.f143,Qkt,Qgm,Qav]
 try simp only [VE,eY]
 all_goals rfl
theorem QaE {R1 s R2 c} [H1 : EncL Qs R1 s] [H2 : EncR QcB R2 c] : CP T (n + 4) 71 [.imm 5 R1,.clo 72 [.iptr 5 [R2] 0 0]] = (QX s c).map fun r=>.b r:=by
 rcases H1,H2 with ⟨⟨rfl⟩,⟨rfl⟩⟩
 rw [Qg]
 simp -dsimp +contextual only [↓evA,eZ,Nat.reduceAdd,Nat.reduceMul,Nat.reduceBEq,Nat.reduceLeDiff,Nat.reduceLT,Tryz.func71,Tryz.f71,QE2,Quw,Qbn]
 try simp only [QX,eY]
 all_goals rfl
theorem QeS (a) {R1 f R2 l} [H1 : EncR Vf R1 f] [H2 : EncL Qs R2 l] : CP T (n + 6) 15 [.agg R1,.imm 5 R2,.i .i64 a] = (QbA f l a).map fun r=>.i .i64 r:=by
 rcases H1,H2 with ⟨⟨rfl⟩,⟨rfl⟩⟩
 rw [Qg]
 simp -dsimp +contextual only [↓evA,eZ,Nat.reduceAdd,Nat.reduceMul,Nat.reduceBEq,Nat.reduceLeDiff,Nat.reduceLT,Tryz.func15,Tryz.f15,QSV,QBY,Qcq,Qjf,QaE]
 try simp only [QbA,eY]
 all_goals rfl
theorem QgL (c s a2 a3) {R1 p R2 o R3 a} [H1 : EncL Q2 R1 p] [H2 : EncL Q2 R2 o] [H3 : EncL Q2 R3 a] : LP T (n + 2) 191 6 (frm [(0,.i .i64 c),(1,.imm 1 R1),(5,.sl 0),(6,.i .i64 s),(25,.imm 1 R3),(26,.i .i64 a2),(27,.i .i64 a3)]) [some (Ent.lst 1 R2)] =
  JF (run (Jh c p o a a2) (s,a3)) (fun (zr : (List Int))=>(XE.ret,frm [(4,.sl 0)],[some (Ent.lst 1 (zr.map Q2))])) (fun (zr : Int)=>(XE.exit 0,frm [(0,.i .i64 c),(1,.imm 1 (p.map Q2)),(5,.sl 0),(6,.i .i64 zr)],[some (Ent.lst 1 (o.map Q2))])):=by
 rcases H1,H2,H3 with ⟨⟨rfl⟩,⟨rfl⟩,⟨rfl⟩⟩
 rw [QH]
 simp -dsimp only [↓evA,evB,Qr,Tryz.func191,Tryz.f191,QsV,Qmo,TP,TZ,Nat.reduceAdd,Nat.reduceMul,Nat.reduceBEq,Nat.reduceLeDiff,Nat.reduceLT]
 apply VP s a3
 intro s a3
 simp -dsimp +contextual only [↓evA,eZ,Nat.reduceAdd,Nat.reduceMul,Nat.reduceBEq,Nat.reduceLeDiff,Nat.reduceLT,Q0]
 try simp only [Jh,eY]
 all_goals rfl
theorem QfU (c s l a2 a3) {R1 o R2 a} [H1 : EncL Q2 R1 o] [H2 : EncL Q2 R2 a] : LP T (n + 1) 191 16 (frm [(0,.i .i64 c),(5,.sl 0),(6,.i .i64 s),(9,.i .i64 l),(43,.imm 1 R2),(44,.i .i64 a2),(45,.i .i64 a3)]) [some (Ent.lst 1 R1)] =
  (run (Xh c s a a2) (o,l,a3)).map (fun (zr : (List Int) × Int)=>(XE.exit 2,frm [(5,.sl 0),(9,.i .i64 zr.2)],[some (Ent.lst 1 (zr.1.map Q2))])):=by
 rcases H1,H2 with ⟨⟨rfl⟩,⟨rfl⟩⟩
 rw [QH]
 simp -dsimp only [↓evA,evB,Qr,Tryz.func191,Tryz.f191,QsV,Qmo,TP,TZ,Nat.reduceAdd,Nat.reduceMul,Nat.reduceBEq,Nat.reduceLeDiff,Nat.reduceLT]
 apply Qd9 o l a3
 intro o l a3
 simp -dsimp +contextual only [↓evA,eZ,Nat.reduceAdd,Nat.reduceMul,Nat.reduceBEq,Nat.reduceLeDiff,Nat.reduceLT]
 try simp only [Xh,eY]
 all_goals rfl
theorem QfT (l i) {R1 o} [H1 : EncL Q2 R1 o] : LP T (n + 1) 191 23 (frm [(5,.sl 0),(9,.i .i64 l),(13,.i .i64 i)]) [some (Ent.lst 1 R1)] =
  (run X8 (o,l,i)).map (fun (zr : (List Int))=>(XE.exit 4,frm [(5,.sl 0)],[some (Ent.lst 1 (zr.map Q2))])):=by
 obtain ⟨rfl⟩:=H1
 rw [QH]
 simp -dsimp only [↓evA,evB,Qr,Tryz.func191,Tryz.f191,QsV,Qmo,TP,TZ,Nat.reduceAdd,Nat.reduceMul,Nat.reduceBEq,Nat.reduceLeDiff,Nat.reduceLT]
 apply Qd9 o l i
 intro o l i
 simp -dsimp +contextual only [↓evA,eZ,Nat.reduceAdd,Nat.reduceMul,Nat.reduceBEq,Nat.reduceLeDiff,Nat.reduceLT]
 try simp only [X8,eY]
 all_goals rfl
theorem QiH (c) {R1 p} [H1 : EncL Q2 R1 p] : CP T (n + 3) 191 [.i .i64 c,.imm 1 R1] = (Qa3 c p).map fun r=>.own 1 (r.map Q2):=by
 obtain ⟨rfl⟩:=H1
 rw [Qg]
 simp -dsimp +contextual only [↓evA,eZ,Nat.reduceAdd,Nat.reduceMul,Nat.reduceBEq,Nat.reduceLeDiff,Nat.reduceLT,Tryz.func191,Tryz.f191,QsV,Qmo,Q0,QgL,QfU,QfT]
 try simp only [Qa3,eY]
 all_goals first | rfl | (simp +contextual only [evN] <;> rfl)
theorem Qll (p f) : CP T (n + 4) 127 [.i .i64 p,.i .i64 f] = (QbO p f).map fun r=>.own 2 (r.map QjX):=by
 rw [Qg]
 simp -dsimp +contextual only [↓evA,eZ,Nat.reduceAdd,Nat.reduceMul,Nat.reduceBEq,Nat.reduceLeDiff,Nat.reduceLT,Tryz.func127,Tryz.f127,QL7,QsH,Q0,QiH]
 try simp only [QbO,eY]
 all_goals first | rfl | (simp +contextual only [evN] <;> rfl)
theorem QkT (a2) {R1 a R2 b} [H1 : EncR QM R1 a] [H2 : EncL JE R2 b] : CP T (n + 13) 56 [.agg R1,.i .i64 a2,.imm 3 R2] = (Qb9 a a2 b).map fun r=>.tup [.agg (JH r.1),.b r.2]:=by
 rcases H1,H2 with ⟨⟨rfl⟩,⟨rfl⟩⟩
 rw [Qg]
 simp -dsimp +contextual (maxSteps:=100000000) only [↓evA,eZ,Nat.reduceAdd,Nat.reduceMul,Nat.reduceBEq,Nat.reduceLeDiff,Nat.reduceLT,Tryz.func56,Tryz.f56,QRn,QAb,srt,QeO,Qm2,QeS,Vh,QeW,QfN,Qll,Qag]
 try simp only [Qb9,eY]
 all_goals rfl
theorem QjZ {R1 a R2 o R3 d} [H1 : EncR QM R1 a] [H2 : EncR QM R2 o] [H3 : EncL c_b R3 d] : CM T (n + 12) 117 [some (Ent.lst 1 R3)] [.agg R1,.agg R2,.sl 0] = (Qaj a o d).map fun r=>.tup [.agg (JH r.1),.b r.2]:=by
 rcases H1,H2,H3 with ⟨⟨rfl⟩,⟨rfl⟩,⟨rfl⟩⟩
 rw [Qtw]
 simp -dsimp +contextual (maxSteps:=100000000) only [↓evA,eZ,Nat.reduceAdd,Nat.reduceMul,Nat.reduceBEq,Nat.reduceLeDiff,Nat.reduceLT,Tryz.func117,Tryz.f117,QxT,Qnt,Qat,Jy,Vh]
 try simp only [Qaj,eY]
 all_goals rfl
theorem Qju (a2) {R1 a} [H1 : EncR QM R1 a] : CP T (n + 13) 57 [.agg R1,.i .i64 a2] = (Qbs a a2).map fun r=>.tup [.agg (JH r.1),.b r.2]:=by
 obtain ⟨rfl⟩:=H1
 rw [Qg]
 simp -dsimp +contextual (maxSteps:=100000000) only [↓evA,eZ,Nat.reduceAdd,Nat.reduceMul,Nat.reduceBEq,Nat.reduceLeDiff,Nat.reduceLT,Tryz.func57,Tryz.f57,QPy,QBH,srt,QeO,Vh,QeS,QeW,Qag,QjZ]
 try simp only [Qbs,eY]
 all_goals rfl
theorem Qkz (a2) {R1 a} [H1 : EncR QM R1 a] : CP T (n + 13) 58 [.agg R1,.i .i64 a2] = (Qcd a a2).map fun r=>.tup [.agg (JH r.1),.b r.2]:=by
 obtain ⟨rfl⟩:=H1
 rw [Qg]
 simp -dsimp +contextual (maxSteps:=100000000) only [↓evA,eZ,Nat.reduceAdd,Nat.reduceMul,Nat.reduceBEq,Nat.reduceLeDiff,Nat.reduceLT,Tryz.func58,Tryz.f58,QR2,Qz1,srt,Vh,Q0,Qag]
 try simp only [Qcd,eY]
 all_goals rfl
theorem Qjk {R1 a R2 e} [H1 : EncR QM R1 a] [H2 : EncR QgK R2 e] : CP T (n + 14) 9 [.agg R1,.agg R2] = (QaN a e).map fun r=>.tup [.agg (JH r.1),.b r.2]:=by
 rcases H1,H2 with ⟨⟨rfl⟩,⟨rfl⟩⟩
 rw [Qg]
 simp -dsimp +contextual (maxSteps:=100000000) only [↓evA,eZ,Nat.reduceAdd,Nat.reduceMul,Nat.reduceBEq,Nat.reduceLeDiff,Nat.reduceLT,Tryz.func9,Tryz.f9,Aa9,An9,QkI,Qj7,QiX,QjF,QkT,Qju,Qkz,Vh]
 try simp only [QaN,eY]
 all_goals rfl
theorem QfW (a3 a4) {R1 a R2 i R3 a2} [H1 : EncR QM R1 a] [H2 : EncL Q2 R2 i] [H3 : EncL Vf R3 a2] : LP T (n + 5) 60 3 (frm [(1,.ptr 0 0 0),(3,.sl 1),(13,.imm 8 R3),(14,.i .i64 a3),(15,.i .i64 a4)]) [some (Ent.box R1),some (Ent.lst 1 R2)] =
  JF (run (X7 a i a2 a3) a4) (fun (zr : Bool)=>(XE.ret,frm [(2,.b zr)],[])) (fun (zr : Unit)=>(XE.exit 0,frm [],[])):=by
 rcases H1,H2,H3 with ⟨⟨rfl⟩,⟨rfl⟩,⟨rfl⟩⟩
 rw [QH]
 simp -dsimp only [↓evA,evB,Qr,Tryz.func60,Tryz.f60,QM8,QxW,TP,TZ,Nat.reduceAdd,Nat.reduceMul,Nat.reduceBEq,Nat.reduceLeDiff,Nat.reduceLT]
 apply Qu a4
 intro a4
 simp -dsimp +contextual (maxSteps:=100000000) only [↓evA,eZ,Nat.reduceAdd,Nat.reduceMul,Nat.reduceBEq,Nat.reduceLeDiff,Nat.reduceLT,QdG,Je,Qc4]
 try simp only [X7,eY]
 all_goals rfl
theorem QhT {R1 a} [H1 : EncR QM R1 a] : CP T (n + 10) 60 [.agg R1] = (Z3 a).map fun r=>.b r:=by
 obtain ⟨rfl⟩:=H1
 rw [Qg]
 simp -dsimp +contextual (maxSteps:=100000000) only [↓evA,eZ,Nat.reduceAdd,Nat.reduceMul,Nat.reduceBEq,Nat.reduceLeDiff,Nat.reduceLT,Tryz.func60,Tryz.f60,QM8,QxW,Qei,QfW]
 try simp only [Z3,eY]
 all_goals rfl
theorem Qig {R1 c R2 c2} [H1 : EncR Qs R1 c] [H2 : EncR VS R2 c2] : CP T (n + 1) 192 [.agg R1,.iptr 5 [R2] 0 0] = (Qch c c2).map fun r=>.b r:=by
 rcases H1,H2 with ⟨⟨rfl⟩,⟨rfl⟩⟩
 rw [Qg]
 simp -dsimp +contextual only [↓evA,eZ,Nat.reduceAdd,Nat.reduceMul,Nat.reduceBEq,Nat.reduceLeDiff,Nat.reduceLT,Tryz.func192,Tryz.f192,QJm,QtG]
 try simp only [Qch,eY]
 all_goals rfl
theorem Z4 (a a2) {R1 s R2 f} [H1 : EncL Qs R1 s] [H2 : EncR VS R2 f] : LP T (n + 2) 143 2 (frm [(0,.imm 5 R1),(1,.clo 192 [.iptr 5 [R2] 0 0]),(7,.i .i64 a),(8,.i .i64 a2)]) [] =
  JF (run (QB s f a) a2) (fun (zr : Int)=>(XE.ret,frm [(4,.i .i64 zr)],[])) (fun (zr : Unit)=>(XE.exit 0,frm [],[])):=by
 rcases H1,H2 with ⟨⟨rfl⟩,⟨rfl⟩⟩
 rw [QH]
 simp -dsimp only [↓evA,evB,Qr,Tryz.func143,Tryz.f143,Qkt,Qgm,TP,TZ,Nat.reduceAdd,Nat.reduceMul,Nat.reduceBEq,Nat.reduceLeDiff,Nat.reduceLT]
 apply Qu a2
 intro a2
 simp -dsimp +contextual only [↓evA,eZ,Nat.reduceAdd,Nat.reduceMul,Nat.reduceBEq,Nat.reduceLeDiff,Nat.reduceLT,Qig]
 try simp only [QB,eY]
 all_goals rfl
theorem QaZ {R1 s R2 c} [H1 : EncL Qs R1 s] [H2 : EncR VS R2 c] : CP T (n + 3) 143 [.imm 5 R1,.clo 192 [.iptr 5 [R2] 0 0]] = (Vp s c).map fun r=>.i .i64 r:=by
 rcases H1,H2 with ⟨⟨rfl⟩,⟨rfl⟩⟩
 rw [Qg]
 simp -dsimp +contextual only [↓evA,eZ,Nat.reduceAdd,Nat.reduceMul,Nat.reduceBEq,Nat.reduceLeDiff,Nat.reduceLT,Tryz.func143,Tryz.f143,Qkt,Qgm,Z4]
 try simp only [Vp,eY]
 all_goals rfl
theorem Z9 {R1 s R2 c} [H1 : EncL Qs R1 s] [H2 : EncR VS R2 c] : CP T (n + 4) 71 [.imm 5 R1,.clo 192 [.iptr 5 [R2] 0 0]] = (QP s c).map fun r=>.b r:=by
 rcases H1,H2 with ⟨⟨rfl⟩,⟨rfl⟩⟩
 rw [Qg]
 simp -dsimp +contextual only [↓evA,eZ,Nat.reduceAdd,Nat.reduceMul,Nat.reduceBEq,Nat.reduceLeDiff,Nat.reduceLT,Tryz.func71,Tryz.f71,QE2,Quw,QaZ]
 try simp only [QP,eY]
 all_goals rfl
theorem QfL {R1 a R2 a2} [H1 : EncR QM R1 a] [H2 : EncR VS R2 a2] : CP T (n + 5) 135 [.agg R1,.agg R2] = (Qa4 a a2).map fun r=>.b r:=by
 rcases H1,H2 with ⟨⟨rfl⟩,⟨rfl⟩⟩
 rw [Qg]
 simp -dsimp +contextual (maxSteps:=100000000) only [↓evA,eZ,Nat.reduceAdd,Nat.reduceMul,Nat.reduceBEq,Nat.reduceLeDiff,Nat.reduceLT,Tryz.func135,Tryz.f135,QHC,QsD,Z9]
 try simp only [Qa4,eY]
 all_goals rfl
theorem Qha (a3 a4) {R1 a R2 a2} [H1 : EncR QM R1 a] [H2 : EncL VS R2 a2] : LP T (n + 6) 61 2 (frm [(1,.ptr 0 0 0),(7,.imm 5 R2),(8,.i .i64 a3),(9,.i .i64 a4)]) [some (Ent.box R1)] =
  JF (run (JI a a2 a3) a4) (fun (zr : Bool)=>(XE.ret,frm [(2,.b zr)],[])) (fun (zr : Unit)=>(XE.exit 0,frm [],[])):=by
 rcases H1,H2 with ⟨⟨rfl⟩,⟨rfl⟩⟩
 rw [QH]
 simp -dsimp only [↓evA,evB,Qr,Tryz.func61,Tryz.f61,QMR,QwO,TP,TZ,Nat.reduceAdd,Nat.reduceMul,Nat.reduceBEq,Nat.reduceLeDiff,Nat.reduceLT]
 apply Qu a4
 intro a4
 simp -dsimp +contextual (maxSteps:=100000000) only [↓evA,eZ,Nat.reduceAdd,Nat.reduceMul,Nat.reduceBEq,Nat.reduceLeDiff,Nat.reduceLT,QfL,XG]
 try simp only [JI,eY]
 all_goals rfl
theorem Qj2 {R1 a} [H1 : EncR QM R1 a] : CP T (n + 7) 61 [.agg R1] = (Qbx a).map fun r=>.b r:=by
 obtain ⟨rfl⟩:=H1
 rw [Qg]
 simp -dsimp +contextual (maxSteps:=100000000) only [↓evA,eZ,Nat.reduceAdd,Nat.reduceMul,Nat.reduceBEq,Nat.reduceLeDiff,Nat.reduceLT,Tryz.func61,Tryz.f61,QMR,QwO,Qha]
 try simp only [Qbx,eY]
 all_goals rfl
theorem QfE (a3 a4) {R1 a R2 a2} [H1 : EncR QM R1 a] [H2 : EncL VS R2 a2] : LP T (n + 6) 62 2 (frm [(1,.ptr 0 0 0),(7,.imm 5 R2),(8,.i .i64 a3),(9,.i .i64 a4)]) [some (Ent.box R1)] =
  JF (run (XD a a2 a3) a4) (fun (zr : Bool)=>(XE.ret,frm [(2,.b zr)],[])) (fun (zr : Unit)=>(XE.exit 0,frm [],[])):=by
 rcases H1,H2 with ⟨⟨rfl⟩,⟨rfl⟩⟩
 rw [QH]
 simp -dsimp only [↓evA,evB,Qr,Tryz.func62,Tryz.f62,QKJ,Qyh,TP,TZ,Nat.reduceAdd,Nat.reduceMul,Nat.reduceBEq,Nat.reduceLeDiff,Nat.reduceLT]
 apply Qu a4
 intro a4
 simp -dsimp +contextual (maxSteps:=100000000) only [↓evA,eZ,Nat.reduceAdd,Nat.reduceMul,Nat.reduceBEq,Nat.reduceLeDiff,Nat.reduceLT,QfL,XG,Qjf]
 try simp only [XD,eY]
 all_goals rfl
theorem Qhb {R1 a} [H1 : EncR QM R1 a] : CP T (n + 7) 62 [.agg R1] = (ZI a).map fun r=>.b r:=by
 obtain ⟨rfl⟩:=H1
 rw [Qg]
 simp -dsimp +contextual (maxSteps:=100000000) only [↓evA,eZ,Nat.reduceAdd,Nat.reduceMul,Nat.reduceBEq,Nat.reduceLeDiff,Nat.reduceLT,Tryz.func62,Tryz.f62,QKJ,Qyh,QfE]
 try simp only [ZI,eY]
 all_goals rfl
theorem Qfm (s2 a2 a3) {R1 s R2 a} [H1 : EncL QeM R1 s] [H2 : EncL QeM R2 a] : LP T (n + 1) 223 3 (frm [(0,.imm 1 R1),(3,.i .i64 s2),(9,.imm 1 R2),(10,.i .i64 a2),(11,.i .i64 a3)]) [] =
  (run (Vv s a a2) (s2,a3)).map (fun (zr : Int)=>(XE.exit 0,frm [(0,.imm 1 (s.map QeM)),(3,.i .i64 zr)],[])):=by
 rcases H1,H2 with ⟨⟨rfl⟩,⟨rfl⟩⟩
 rw [QH]
 simp -dsimp only [↓evA,evB,Qr,Tryz.func223,Tryz.f223,Qx3,QnK,TP,TZ,Nat.reduceAdd,Nat.reduceMul,Nat.reduceBEq,Nat.reduceLeDiff,Nat.reduceLT]
 apply VP s2 a3
 intro s2 a3
 simp -dsimp +contextual only [↓evA,eZ,Nat.reduceAdd,Nat.reduceMul,Nat.reduceBEq,Nat.reduceLeDiff,Nat.reduceLT]
 try simp only [Vv,eY]
 all_goals rfl
theorem Qe2 (a3 a4) {R1 a R2 a2} [H1 : EncL Q2 R1 a] [H2 : EncL QeM R2 a2] : LP T (n + 1) 223 11 (frm [(6,.sl 0),(25,.imm 1 R2),(26,.i .i64 a3),(27,.i .i64 a4)]) [some (Ent.lst 1 R1)] =
  (run (V3 a2 a3) (a,a4)).map (fun (zr : (List Int))=>(XE.exit 2,frm [(6,.sl 0)],[some (Ent.lst 1 (zr.map Q2))])):=by
 rcases H1,H2 with ⟨⟨rfl⟩,⟨rfl⟩⟩
 rw [QH]
 simp -dsimp only [↓evA,evB,Qr,Tryz.func223,Tryz.f223,Qx3,QnK,TP,TZ,Nat.reduceAdd,Nat.reduceMul,Nat.reduceBEq,Nat.reduceLeDiff,Nat.reduceLT]
 apply VP a a4
 intro a a4
 simp -dsimp +contextual only [↓evA,eZ,Nat.reduceAdd,Nat.reduceMul,Nat.reduceBEq,Nat.reduceLeDiff,Nat.reduceLT]
 try simp only [V3,eY]
 all_goals rfl
theorem Qhr {R1 s} [H1 : EncL QeM R1 s] : CP T (n + 2) 223 [.imm 1 R1] = (ZE s).map fun r=>.own 1 (r.map Q2):=by
 obtain ⟨rfl⟩:=H1
 rw [Qg]
 simp -dsimp +contextual only [↓evA,eZ,Nat.reduceAdd,Nat.reduceMul,Nat.reduceBEq,Nat.reduceLeDiff,Nat.reduceLT,Tryz.func223,Tryz.f223,Qx3,QnK,Qiy,Qfm,Qe2]
 try simp only [ZE,eY]
 all_goals first | rfl | (simp +contextual only [evN] <;> rfl)
theorem QjK {R1 a} [H1 : EncL Q2 R1 a] : CP T (n + 3) 166 [.imm 1 R1,.nil] = (Qbr a).map fun r=>.own 1 (r.map Q2):=by
 obtain ⟨rfl⟩:=H1
 rw [Qg]
 simp -dsimp +contextual only [↓evA,eZ,Nat.reduceAdd,Nat.reduceMul,Nat.reduceBEq,Nat.reduceLeDiff,Nat.reduceLT,Tryz.func166,Tryz.f166,QHH,QtB,srt,Qhr]
 try simp only [Qbr,eY]
 all_goals first | rfl | (simp +contextual only [evN] <;> rfl)
theorem Qf5 (a2 a3) {R1 o R2 a} [H1 : EncL Q2 R1 o] [H2 : EncL VN R2 a] : LP T (n + 1) 136 3 (frm [(3,.sl 0),(7,.imm 4 R2),(8,.i .i64 a2),(9,.i .i64 a3)]) [some (Ent.lst 1 R1)] =
  (run (Xw a a2) (o,a3)).map (fun (zr : (List Int))=>(XE.exit 0,frm [(3,.sl 0)],[some (Ent.lst 1 (zr.map Q2))])):=by
 rcases H1,H2 with ⟨⟨rfl⟩,⟨rfl⟩⟩
 rw [QH]
 simp -dsimp only [↓evA,evB,Qr,Tryz.func136,Tryz.f136,QC3,QpD,TP,TZ,Nat.reduceAdd,Nat.reduceMul,Nat.reduceBEq,Nat.reduceLeDiff,Nat.reduceLT]
 apply VP o a3
 intro o a3
 simp -dsimp +contextual only [↓evA,eZ,Nat.reduceAdd,Nat.reduceMul,Nat.reduceBEq,Nat.reduceLeDiff,Nat.reduceLT]
 try simp only [Xw,eY]
 all_goals rfl
theorem Qii {R1 l} [H1 : EncL VN R1 l] : CP T (n + 4) 136 [.imm 4 R1] = (QaV l).map fun r=>.own 1 (r.map Q2):=by
 obtain ⟨rfl⟩:=H1
 rw [Qg]
 simp -dsimp +contextual only [↓evA,eZ,Nat.reduceAdd,Nat.reduceMul,Nat.reduceBEq,Nat.reduceLeDiff,Nat.reduceLT,Tryz.func136,Tryz.f136,QC3,QpD,QjK,Qf5]
 try simp only [QaV,eY]
 all_goals first | rfl | (simp +contextual only [evN] <;> rfl)
theorem Qja (a a2 a4 a5) {R1 a3} [H1 : EncL VN R1 a3] : LP T (n + 1) 193 3 (frm [(1,.i .i64 a),(5,.i .i64 a2),(8,.imm 4 R1),(9,.i .i64 a4),(10,.i .i64 a5)]) [] =
  (run (JQ a a3 a4) (a2,a5)).map (fun (zr : Int)=>(XE.exit 0,frm [(5,.i .i64 zr)],[])):=by
 obtain ⟨rfl⟩:=H1
 rw [QH]
 simp -dsimp only [↓evA,evB,Qr,Tryz.func193,Tryz.f193,QC0,Qqj,TP,TZ,Nat.reduceAdd,Nat.reduceMul,Nat.reduceBEq,Nat.reduceLeDiff,Nat.reduceLT]
 apply VP a2 a5
 intro a2 a5
 simp -dsimp +contextual only [↓evA,eZ,Nat.reduceAdd,Nat.reduceMul,Nat.reduceBEq,Nat.reduceLeDiff,Nat.reduceLT]
 try simp only [JQ,eY]
 all_goals rfl
theorem Qmc (a) {R1 l} [H1 : EncL VN R1 l] : CP T (n + 2) 193 [.imm 4 R1,.i .i64 a] = (QdP l a).map fun r=>.i .i64 r:=by
 obtain ⟨rfl⟩:=H1
 rw [Qg]
 simp -dsimp +contextual only [↓evA,eZ,Nat.reduceAdd,Nat.reduceMul,Nat.reduceBEq,Nat.reduceLeDiff,Nat.reduceLT,Tryz.func193,Tryz.f193,QC0,Qqj,Qja]
 try simp only [QdP,eY]
 all_goals rfl
theorem Qhd (a a2 a4 a5) {R1 a3} [H1 : EncL VN R1 a3] : LP T (n + 1) 194 5 (frm [(1,.i .i64 a),(5,.i .i64 a2),(12,.imm 4 R1),(13,.i .i64 a4),(14,.i .i64 a5)]) [] =
  (run (XX a a3 a4) (a2,a5)).map (fun (zr : Int)=>(XE.exit 0,frm [(5,.i .i64 zr)],[])):=by
 obtain ⟨rfl⟩:=H1
 rw [QH]
 simp -dsimp only [↓evA,evB,Qr,Tryz.func194,Tryz.f194,QCA,QpV,TP,TZ,Nat.reduceAdd,Nat.reduceMul,Nat.reduceBEq,Nat.reduceLeDiff,Nat.reduceLT]
 apply VP a2 a5
 intro a2 a5
 simp -dsimp +contextual only [↓evA,eZ,Nat.reduceAdd,Nat.reduceMul,Nat.reduceBEq,Nat.reduceLeDiff,Nat.reduceLT]
 try simp only [XX,eY]
 all_goals rfl
theorem QjG (a) {R1 l} [H1 : EncL VN R1 l] : CP T (n + 4) 194 [.imm 4 R1,.i .i64 a] = (QcA l a).map fun r=>.i .i64 r:=by
 obtain ⟨rfl⟩:=H1
 rw [Qg]
 simp -dsimp +contextual only [↓evA,eZ,Nat.reduceAdd,Nat.reduceMul,Nat.reduceBEq,Nat.reduceLeDiff,Nat.reduceLT,Tryz.func194,Tryz.f194,QCA,QpV,Qbl,Qhd]
 try simp only [QcA,eY]
 all_goals rfl
theorem QgF (a) {R1 l} [H1 : EncL VN R1 l] : CP T (n + 5) 137 [.imm 4 R1,.i .i64 a] = (Qay l a).map fun r=>.i .i64 r:=by
 obtain ⟨rfl⟩:=H1
 rw [Qg]
 simp -dsimp +contextual only [↓evA,eZ,Nat.reduceAdd,Nat.reduceMul,Nat.reduceBEq,Nat.reduceLeDiff,Nat.reduceLT,Tryz.func137,Tryz.f137,QJe,Qt3,Qbl,Qmc,QjG]
 try simp only [Qay,eY]
 all_goals rfl
theorem Qgo (s a3 a4) {R1 a R2 a2} [H1 : EncR QM R1 a] [H2 : EncL Q2 R2 a2] : LP T (n + 6) 63 3 (frm [(1,.ptr 0 0 0),(3,.i .i64 s),(8,.sl 1),(9,.i .i64 a3),(10,.i .i64 a4)]) [some (Ent.box R1),some (Ent.lst 1 R2)] =
  (run (Xx a a2 a3) (s,a4)).map (fun (zr : Int)=>(XE.exit 0,frm [(1,.ptr 0 0 0),(3,.i .i64 zr)],[some (Ent.box (QM a))])):=by
 rcases H1,H2 with ⟨⟨rfl⟩,⟨rfl⟩⟩
 rw [QH]
 simp -dsimp only [↓evA,evB,Qr,Tryz.func63,Tryz.f63,QIq,Qv3,TP,TZ,Nat.reduceAdd,Nat.reduceMul,Nat.reduceBEq,Nat.reduceLeDiff,Nat.reduceLT]
 apply VP s a4
 intro s a4
 simp -dsimp +contextual (maxSteps:=100000000) only [↓evA,eZ,Nat.reduceAdd,Nat.reduceMul,Nat.reduceBEq,Nat.reduceLeDiff,Nat.reduceLT,QgF]
 try simp only [Xx,eY]
 all_goals rfl
theorem Qi8 {R1 a} [H1 : EncR QM R1 a] : CP T (n + 7) 63 [.agg R1] = (Qa0 a).map fun r=>.b r:=by
 obtain ⟨rfl⟩:=H1
 rw [Qg]
 simp -dsimp +contextual (maxSteps:=100000000) only [↓evA,eZ,Nat.reduceAdd,Nat.reduceMul,Nat.reduceBEq,Nat.reduceLeDiff,Nat.reduceLT,Tryz.func63,Tryz.f63,QIq,Qv3,Qii,QgF,Qgo]
 try simp only [Qa0,eY]
 all_goals rfl
theorem QlH {R1 a} [H1 : EncR QM R1 a] : CP T (n + 12) 10 [.agg R1] = (QcQ a).map fun r=>.s r:=by
 obtain ⟨rfl⟩:=H1
 rw [Qg]
 simp -dsimp +contextual (maxSteps:=100000000) only [↓evA,eZ,Nat.reduceAdd,Nat.reduceMul,Nat.reduceBEq,Nat.reduceLeDiff,Nat.reduceLT,Tryz.func10,Tryz.f10,QQc,QAu,Jy,QhT,Qj2,Qhb,Qi8]
 try simp only [QcQ,eY]
 all_goals rfl
theorem QkL (a3 a4) {R1 a R2 o R3 a2} [H1 : EncR QM R1 a] [H2 : EncL Q2 R2 o] [H3 : EncL Vf R3 a2] : LP T (n + 5) 12 3 (frm [(1,.ptr 0 0 0),(3,.sl 1),(8,.imm 8 R3),(9,.i .i64 a3),(10,.i .i64 a4)]) [some (Ent.box R1),some (Ent.lst 1 R2)] =
  (run (Qa5 a a2 a3) (o,a4)).map (fun (zr : (List Int))=>(XE.exit 0,frm [(3,.sl 0)],[some (Ent.lst 1 (zr.map Q2))])):=by
 rcases H1,H2,H3 with ⟨⟨rfl⟩,⟨rfl⟩,⟨rfl⟩⟩
 rw [QH]
 simp -dsimp only [↓evA,evB,Qr,Tryz.func12,Tryz.f12,QNx,Qw3,TP,TZ,Nat.reduceAdd,Nat.reduceMul,Nat.reduceBEq,Nat.reduceLeDiff,Nat.reduceLT]
 apply VP o a4
 intro o a4
 simp -dsimp +contextual (maxSteps:=100000000) only [↓evA,eZ,Nat.reduceAdd,Nat.reduceMul,Nat.reduceBEq,Nat.reduceLeDiff,Nat.reduceLT,Je]
 try simp only [Qa5,eY]
 all_goals rfl
theorem Qoa {R1 a} [H1 : EncR QM R1 a] : CP T (n + 6) 12 [.agg R1] = (Qda a).map fun r=>.own 1 (r.map Q2):=by
 obtain ⟨rfl⟩:=H1
 rw [Qg]
 simp -dsimp +contextual (maxSteps:=100000000) only [↓evA,eZ,Nat.reduceAdd,Nat.reduceMul,Nat.reduceBEq,Nat.reduceLeDiff,Nat.reduceLT,Tryz.func12,Tryz.f12,QNx,Qw3,QkL]
 try simp only [Qda,eY]
 all_goals first | rfl | (simp +contextual only [evN] <;> rfl)
theorem QhX (i) {R1 a R2 b} [H1 : EncL Q2 R1 a] [H2 : EncL Q2 R2 b] : LP T (n + 1) 11 4 (frm [(0,.imm 1 R1),(1,.imm 1 R2),(5,.i .i64 i)]) [] =
  JF (run (Zd a b) i) (fun (zr : Bool)=>(XE.ret,frm [(4,.b zr)],[])) (fun (zr : Unit)=>(XE.exit 0,frm [],[])):=by
 rcases H1,H2 with ⟨⟨rfl⟩,⟨rfl⟩⟩
 rw [QH]
 simp -dsimp only [↓evA,evB,Qr,Tryz.func11,Tryz.f11,QLu,Qv8,TP,TZ,Nat.reduceAdd,Nat.reduceMul,Nat.reduceBEq,Nat.reduceLeDiff,Nat.reduceLT]
 apply Qu i
 intro i
 simp -dsimp +contextual only [↓evA,eZ,Nat.reduceAdd,Nat.reduceMul,Nat.reduceBEq,Nat.reduceLeDiff,Nat.reduceLT]
 try simp only [Zd,eY]
 all_goals rfl
theorem QkZ {R1 a R2 b} [H1 : EncL Q2 R1 a] [H2 : EncL Q2 R2 b] : CP T (n + 2) 11 [.imm 1 R1,.imm 1 R2] = (Qcg a b).map fun r=>.b r:=by
 rcases H1,H2 with ⟨⟨rfl⟩,⟨rfl⟩⟩
 rw [Qg]
 simp -dsimp +contextual only [↓evA,eZ,Nat.reduceAdd,Nat.reduceMul,Nat.reduceBEq,Nat.reduceLeDiff,Nat.reduceLT,Tryz.func11,Tryz.f11,QLu,Qv8,QhX]
 try simp only [Qcg,eY]
 all_goals rfl
theorem Qne {R1 a R2 a2} [H1 : EncR QM R1 a] [H2 : EncR VS R2 a2] : CP T (n + 5) 16 [.agg R1,.agg R2] = (Qdu a a2).map fun r=>.b r:=by
 rcases H1,H2 with ⟨⟨rfl⟩,⟨rfl⟩⟩
 rw [Qg]
 simp -dsimp +contextual (maxSteps:=100000000) only [↓evA,eZ,Nat.reduceAdd,Nat.reduceMul,Nat.reduceBEq,Nat.reduceLeDiff,Nat.reduceLT,Tryz.func16,Tryz.f16,QRz,QAe,Qcq,Zf]
 try simp only [Qdu,eY]
 all_goals rfl
theorem QjH (c) {R1 a} [H1 : EncR VB R1 a] : CP T (n + 1) 146 [.agg R1,.iptr 1 [[.i .i64 c]] 0 0] = (Qc2 a c).map fun r=>.b r:=by
 obtain ⟨rfl⟩:=H1
 rw [Qg]
 simp -dsimp +contextual only [↓evA,eZ,Nat.reduceAdd,Nat.reduceMul,Nat.reduceBEq,Nat.reduceLeDiff,Nat.reduceLT,Tryz.func146,Tryz.f146,QJT,QsR]
 try simp only [Qc2,eY]
 all_goals rfl
theorem Qao (f a a2) {R1 s} [H1 : EncL VB R1 s] : LP T (n + 2) 145 2 (frm [(0,.imm 4 R1),(1,.clo 146 [.iptr 1 [[.i .i64 f]] 0 0]),(7,.i .i64 a),(8,.i .i64 a2)]) [] =
  JF (run (QE s f a) a2) (fun (zr : Int)=>(XE.ret,frm [(4,.i .i64 zr)],[])) (fun (zr : Unit)=>(XE.exit 0,frm [],[])):=by
 obtain ⟨rfl⟩:=H1
 rw [QH]
 simp -dsimp only [↓evA,evB,Qr,Tryz.func145,Tryz.f145,QCt,QqP,TP,TZ,Nat.reduceAdd,Nat.reduceMul,Nat.reduceBEq,Nat.reduceLeDiff,Nat.reduceLT]
 apply Qu a2
 intro a2
 simp -dsimp +contextual only [↓evA,eZ,Nat.reduceAdd,Nat.reduceMul,Nat.reduceBEq,Nat.reduceLeDiff,Nat.reduceLT,QjH]
 try simp only [QE,eY]
 all_goals rfl
theorem Qbb (c) {R1 s} [H1 : EncL VB R1 s] : CP T (n + 3) 145 [.imm 4 R1,.clo 146 [.iptr 1 [[.i .i64 c]] 0 0]] = (Vu s c).map fun r=>.i .i64 r:=by
 obtain ⟨rfl⟩:=H1
 rw [Qg]
 simp -dsimp +contextual only [↓evA,eZ,Nat.reduceAdd,Nat.reduceMul,Nat.reduceBEq,Nat.reduceLeDiff,Nat.reduceLT,Tryz.func145,Tryz.f145,QCt,QqP,Qao]
 try simp only [Vu,eY]
 all_goals rfl
theorem Qlv (c) {R1 a} [H1 : EncR QM R1 a] : CP T (n + 4) 74 [.agg R1,.i .i64 c] = (QdY a c).map fun r=>.i .i64 r:=by
 obtain ⟨rfl⟩:=H1
 rw [Qg]
 simp -dsimp +contextual (maxSteps:=100000000) only [↓evA,eZ,Nat.reduceAdd,Nat.reduceMul,Nat.reduceBEq,Nat.reduceLeDiff,Nat.reduceLT,Tryz.func74,Tryz.f74,QQC,QB6,Qbb]
 try simp only [QdY,eY]
 all_goals rfl
theorem QlX (c) {R1 a} [H1 : EncR QM R1 a] : CP T (n + 5) 17 [.agg R1,.i .i64 c] = (QcH a c).map fun r=>.tup [.agg (VB r.1),.b r.2]:=by
 obtain ⟨rfl⟩:=H1
 rw [Qg]
 simp -dsimp +contextual (maxSteps:=100000000) only [↓evA,eZ,Nat.reduceAdd,Nat.reduceMul,Nat.reduceBEq,Nat.reduceLeDiff,Nat.reduceLT,Tryz.func17,Tryz.f17,QPw,QzV,Qlv]
 try simp only [QcH,eY]
 all_goals rfl
theorem Qkh (axNo axNow i bxNo bxNow k) {R1 l R2 axFinds R3 axSecrets R4 axSlots R5 axClaims R6 axTrials R7 axChain R8 axBook R9 bxFinds R10 bxSecrets R11 bxSlots R12 bxClaims R13 bxTrials R14 bxChain R15 bxBook} [H1 : EncL QgK R1 l] [H2 : EncL Vf R2 axFinds] [H3 : EncL Q7 R3 axSecrets] [H4 : EncL VT R4 axSlots] [H5 : EncL Qs R5 axClaims] [H6 : EncL VB R6 axTrials] [H7 : EncL VS R7 axChain] [H8 : EncL VN R8 axBook] [H9 : EncL Vf R9 bxFinds] [H10 : EncL Q7 R10 bxSecrets] [H11 : EncL VT R11 bxSlots] [H12 : EncL Qs R12 bxClaims] [H13 : EncL VB R13 bxTrials] [H14 : EncL VS R14 bxChain] [H15 : EncL VN R15 bxBook] : LP T (n + 7) 3 15 (frm [(4,.imm 14 R1),(5,.ptr 0 0 0),(6,.i .i64 i),(7,.ptr 8 0 0),(8,.i .i64 k)]) [some (Ent.box [.i .i64 axNo,.sl 1,.sl 2,.sl 3,.sl 4,.sl 5,.sl 6,.sl 7,.i .i64 axNow]),some (Ent.lst 8 R2),some (Ent.lst 3 R3),some (Ent.lst 3 R4),some (Ent.lst 5 R5),some (Ent.lst 4 R6),some (Ent.lst 5 R7),some (Ent.lst 4 R8),some (Ent.box [.i .i64 bxNo,.sl 9,.sl 10,.sl 11,.sl 12,.sl 13,.sl 14,.sl 15,.i .i64 bxNow]),some (Ent.lst 8 R9),some (Ent.lst 3 R10),some (Ent.lst 3 R11),some (Ent.lst 5 R12),some (Ent.lst 4 R13),some (Ent.lst 5 R14),some (Ent.lst 4 R15)] =
  JF (run (Qam l (⟨axNo,axFinds,axSecrets,axSlots,axClaims,axTrials,axChain,axBook,axNow⟩ : House) i (⟨bxNo,bxFinds,bxSecrets,bxSlots,bxClaims,bxTrials,bxChain,bxBook,bxNow⟩ : House)) k) (fun (zr : Bool)=>(XE.ret,frm [(2,.b zr)],[])) (fun (zr : Unit)=>(XE.exit 2,frm [(4,.imm 14 (l.map QgK)),(5,.ptr 0 0 0),(6,.i .i64 i)],[some (Ent.box [.i .i64 axNo,.sl 1,.sl 2,.sl 3,.sl 4,.sl 5,.sl 6,.sl 7,.i .i64 axNow]),some (Ent.lst 8 (axFinds.map Vf)),some (Ent.lst 3 (axSecrets.map Q7)),some (Ent.lst 3 (axSlots.map VT)),some (Ent.lst 5 (axClaims.map Qs)),some (Ent.lst 4 (axTrials.map VB)),some (Ent.lst 5 (axChain.map VS)),some (Ent.lst 4 (axBook.map VN))])):=by
 rcases H1,H2,H3,H4,H5,H6,H7,H8,H9,H10,H11,H12,H13,H14,H15 with ⟨⟨rfl⟩,⟨rfl⟩,⟨rfl⟩,⟨rfl⟩,⟨rfl⟩,⟨rfl⟩,⟨rfl⟩,⟨rfl⟩,⟨rfl⟩,⟨rfl⟩,⟨rfl⟩,⟨rfl⟩,⟨rfl⟩,⟨rfl⟩,⟨rfl⟩⟩
 rw [QH]
 simp -dsimp only [↓evA,evB,Qr,Tryz.func3,Tryz.f3,Aa3,An3,TP,TZ,Nat.reduceAdd,Nat.reduceMul,Nat.reduceBEq,Nat.reduceLeDiff,Nat.reduceLT]
 apply Qu k
 intro k
 simp -dsimp +contextual (maxSteps:=100000000) only [↓evA,eZ,Nat.reduceAdd,Nat.reduceMul,Nat.reduceBEq,Nat.reduceLeDiff,Nat.reduceLT,XG,QeS,Qne]
 try simp only [Qam,eY]
 all_goals rfl
theorem QkE (axNo axNow i) {R1 l R2 axFinds R3 axSecrets R4 axSlots R5 axClaims R6 axTrials R7 axChain R8 axBook} [H1 : EncL QgK R1 l] [H2 : EncL Vf R2 axFinds] [H3 : EncL Q7 R3 axSecrets] [H4 : EncL VT R4 axSlots] [H5 : EncL Qs R5 axClaims] [H6 : EncL VB R6 axTrials] [H7 : EncL VS R7 axChain] [H8 : EncL VN R8 axBook] : LP T (n + 15) 3 8 (frm [(4,.imm 14 R1),(5,.ptr 0 0 0),(6,.i .i64 i)]) [some (Ent.box [.i .i64 axNo,.sl 1,.sl 2,.sl 3,.sl 4,.sl 5,.sl 6,.sl 7,.i .i64 axNow]),some (Ent.lst 8 R2),some (Ent.lst 3 R3),some (Ent.lst 3 R4),some (Ent.lst 5 R5),some (Ent.lst 4 R6),some (Ent.lst 5 R7),some (Ent.lst 4 R8)] =
  JF (run (ZQ l) ((⟨axNo,axFinds,axSecrets,axSlots,axClaims,axTrials,axChain,axBook,axNow⟩ : House),i)) (fun (zr : Bool)=>(XE.ret,frm [(2,.b zr)],[])) (fun (zr : House)=>(XE.exit 0,frm [(5,.ptr 0 0 0)],[some (Ent.box [.i .i64 zr.No,.sl 1,.sl 2,.sl 3,.sl 4,.sl 5,.sl 6,.sl 7,.i .i64 zr.Now]),some (Ent.lst 8 (zr.Finds.map Vf)),some (Ent.lst 3 (zr.Secrets.map Q7)),some (Ent.lst 3 (zr.Slots.map VT)),some (Ent.lst 5 (zr.Claims.map Qs)),some (Ent.lst 4 (zr.Trials.map VB)),some (Ent.lst 5 (zr.Chain.map VS)),some (Ent.lst 4 (zr.Book.map VN))])):=by
 rcases H1,H2,H3,H4,H5,H6,H7,H8 with ⟨⟨rfl⟩,⟨rfl⟩,⟨rfl⟩,⟨rfl⟩,⟨rfl⟩,⟨rfl⟩,⟨rfl⟩,⟨rfl⟩⟩
 rw [QH]
 simp -dsimp only [↓evA,evB,Qr,Tryz.func3,Tryz.f3,Aa3,An3,TP,TZ,Nat.reduceAdd,Nat.reduceMul,Nat.reduceBEq,Nat.reduceLeDiff,Nat.reduceLT]
 refine run_map (fun (zs : House × Int)=>(frm [(4,.imm 14 (l.map QgK)),(5,.ptr 0 0 0),(6,.i .i64 zs.2)],[some (Ent.box [.i .i64 zs.1.No,.sl 1,.sl 2,.sl 3,.sl 4,.sl 5,.sl 6,.sl 7,.i .i64 zs.1.Now]),some (Ent.lst 8 (zs.1.Finds.map Vf)),some (Ent.lst 3 (zs.1.Secrets.map Q7)),some (Ent.lst 3 (zs.1.Slots.map VT)),some (Ent.lst 5 (zs.1.Claims.map Qs)),some (Ent.lst 4 (zs.1.Trials.map VB)),some (Ent.lst 5 (zs.1.Chain.map VS)),some (Ent.lst 4 (zs.1.Book.map VN))])) _ ?_ ((⟨axNo,axFinds,axSecrets,axSlots,axClaims,axTrials,axChain,axBook,axNow⟩ : House),i)
 rintro ⟨a,i⟩
 simp -dsimp +contextual (maxSteps:=100000000) only [↓evA,eZ,Nat.reduceAdd,Nat.reduceMul,Nat.reduceBEq,Nat.reduceLeDiff,Nat.reduceLT,Qjk,QlH,Qoa,Qei,QkZ,Qkh]
 try simp only [ZQ,eY]
 all_goals rfl
theorem QjL (axNo axNow i) {R1 axFinds R2 axSecrets R3 axSlots R4 axClaims R5 axTrials R6 axChain R7 axBook} [H1 : EncL Vf R1 axFinds] [H2 : EncL Q7 R2 axSecrets] [H3 : EncL VT R3 axSlots] [H4 : EncL Qs R4 axClaims] [H5 : EncL VB R5 axTrials] [H6 : EncL VS R6 axChain] [H7 : EncL VN R7 axBook] : LP T (n + 6) 3 24 (frm [(5,.ptr 0 0 0),(11,.i .i64 i)]) [some (Ent.box [.i .i64 axNo,.sl 1,.sl 2,.sl 3,.sl 4,.sl 5,.sl 6,.sl 7,.i .i64 axNow]),some (Ent.lst 8 R1),some (Ent.lst 3 R2),some (Ent.lst 3 R3),some (Ent.lst 5 R4),some (Ent.lst 4 R5),some (Ent.lst 5 R6),some (Ent.lst 4 R7)] =
  JF (run (Qak (⟨axNo,axFinds,axSecrets,axSlots,axClaims,axTrials,axChain,axBook,axNow⟩ : House)) i) (fun (zr : Bool)=>(XE.ret,frm [(2,.b zr)],[])) (fun (zr : Unit)=>(XE.exit 4,frm [],[])):=by
 rcases H1,H2,H3,H4,H5,H6,H7 with ⟨⟨rfl⟩,⟨rfl⟩,⟨rfl⟩,⟨rfl⟩,⟨rfl⟩,⟨rfl⟩,⟨rfl⟩⟩
 rw [QH]
 simp -dsimp only [↓evA,evB,Qr,Tryz.func3,Tryz.f3,Aa3,An3,TP,TZ,Nat.reduceAdd,Nat.reduceMul,Nat.reduceBEq,Nat.reduceLeDiff,Nat.reduceLT]
 apply Qu i
 intro i
 simp -dsimp +contextual (maxSteps:=100000000) only [↓evA,eZ,Nat.reduceAdd,Nat.reduceMul,Nat.reduceBEq,Nat.reduceLeDiff,Nat.reduceLT,QlX,Qee,Qge]
 try simp only [Qak,eY]
 all_goals rfl
theorem QoP {R1 c} [H1 : EncL QdV R1 c] : CP T (n + 16) 3 [.imm 1 R1] = (Qfn c).map fun r=>.b r:=by
 obtain ⟨rfl⟩:=H1
 rw [Qg]
 simp -dsimp +contextual only [↓evA,eZ,Nat.reduceAdd,Nat.reduceMul,Nat.reduceBEq,Nat.reduceLeDiff,Nat.reduceLT,Tryz.func3,Tryz.f3,Aa3,An3,Qq9,QgC,Jy,Qf9,QkE,QjL]
 try simp only [Qfn,eY]
 all_goals rfl
end Go.Proofs.YtonidbheohhgdaaGreat
