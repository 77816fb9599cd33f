import Derived.Test.YtonidbheohhgdaaGreatEq2
namespace Go.Proofs.YtonidbheohhgdaaGreat
open Go Go.Proofs Go.Proofs.YtonidbheohhgdaaGreat.Am
set_option maxHeartbeats 4000000
set_option linter.unusedVariables false
set_option linter.unusedSimpArgs false
set_option linter.defProp false
set_option maxRecDepth 100000
variable (n : Nat)
theorem Qgs {R1 s} [H1 : EncL VB R1 s] : CP T (n + 1) 132 [.imm 4 R1] = (QaI s).map fun r=>.own 4 (r.map VB):=by
 obtain ⟨rfl⟩:=H1
 rw [Qg]
 simp -dsimp +contextual only [↓evA,eZ,Nat.reduceAdd,Nat.reduceMul,Nat.reduceBEq,Nat.reduceLeDiff,Nat.reduceLT,Tryz.func132,Tryz.f132,QKc,Qtv]
 try simp only [QaI,eY]
 all_goals first | rfl | (simp +contextual only [evN] <;> rfl)
theorem QdL {R1 s} [H1 : EncL VS R1 s] : CP T (n + 1) 133 [.imm 5 R1] = (V4 s).map fun r=>.own 5 (r.map VS):=by
 obtain ⟨rfl⟩:=H1
 rw [Qg]
 simp -dsimp +contextual only [↓evA,eZ,Nat.reduceAdd,Nat.reduceMul,Nat.reduceBEq,Nat.reduceLeDiff,Nat.reduceLT,Tryz.func133,Tryz.f133,QNm,QtW]
 try simp only [V4,eY]
 all_goals first | rfl | (simp +contextual only [evN] <;> rfl)
theorem Qdx {R1 s} [H1 : EncL VN R1 s] : CP T (n + 1) 134 [.imm 4 R1] = (XA s).map fun r=>.own 4 (r.map VN):=by
 obtain ⟨rfl⟩:=H1
 rw [Qg]
 simp -dsimp +contextual only [↓evA,eZ,Nat.reduceAdd,Nat.reduceMul,Nat.reduceBEq,Nat.reduceLeDiff,Nat.reduceLT,Tryz.func134,Tryz.f134,QNt,Qto]
 try simp only [XA,eY]
 all_goals first | rfl | (simp +contextual only [evN] <;> rfl)
theorem Vh {R1 a} [H1 : EncR QM R1 a] : CP T (n + 4) 59 [.agg R1] = (QU a).map fun r=>.agg (JH r):=by
 obtain ⟨rfl⟩:=H1
 rw [Qg]
 simp -dsimp +contextual (maxSteps:=100000000) only [↓evA,eZ,Nat.reduceAdd,Nat.reduceMul,Nat.reduceBEq,Nat.reduceLeDiff,Nat.reduceLT,Tryz.func59,Tryz.f59,QTM,QBZ,QdN,QdM,Qb0,QbC,Qgs,QdL,Qdx]
 try simp only [QU,eY]
 all_goals rfl
theorem Qji (a) {R1 l R2 f R3 o} [H1 : EncL Vf R1 l] [H2 : EncR Vf R2 f] [H3 : EncL Vf R3 o] : LP T (n + 1) 113 5 (frm [(0,.imm 8 R1),(3,.ptr 0 0 0),(6,.sl 1),(7,.i .i64 a)]) [some (Ent.box R2),some (Ent.lst 8 R3)] =
  (run (Qci l f o) a).map (fun (zr : Int)=>(XE.exit 0,frm [(0,.imm 8 (l.map Vf)),(3,.ptr 0 0 0),(6,.sl 1),(7,.i .i64 zr)],[some (Ent.box (Vf f)),some (Ent.lst 8 (o.map Vf))])):=by
 rcases H1,H2,H3 with ⟨⟨rfl⟩,⟨rfl⟩,⟨rfl⟩⟩
 rw [QH]
 simp -dsimp only [↓evA,evB,Qr,Tryz.func113,Tryz.f113,QCN,Qo9,TP,TZ,Nat.reduceAdd,Nat.reduceMul,Nat.reduceBEq,Nat.reduceLeDiff,Nat.reduceLT]
 apply Qu a
 intro a
 simp -dsimp +contextual only [↓evA,eZ,Nat.reduceAdd,Nat.reduceMul,Nat.reduceBEq,Nat.reduceLeDiff,Nat.reduceLT,srt]
 try simp only [Qci,eY]
 all_goals rfl
theorem QmR {R1 l R2 f} [H1 : EncL Vf R1 l] [H2 : EncR Vf R2 f] : CP T (n + 6) 113 [.imm 8 R1,.agg R2] = (QcN l f).map fun r=>.tup [.own 8 (r.1.map Vf),.b r.2]:=by
 rcases H1,H2 with ⟨⟨rfl⟩,⟨rfl⟩⟩
 rw [Qg]
 simp -dsimp +contextual only [↓evA,eZ,Nat.reduceAdd,Nat.reduceMul,Nat.reduceBEq,Nat.reduceLeDiff,Nat.reduceLT,Tryz.func113,Tryz.f113,QCN,Qo9,srt,QdN,XG,QBB,QfM,Qji]
 try simp only [QcN,eY]
 all_goals first | rfl | (simp +contextual only [evN] <;> rfl)
theorem Qg9 (a2) {R1 l R2 a R3 o} [H1 : EncL VX R1 l] [H2 : EncR VX R2 a] [H3 : EncL Q7 R3 o] : LP T (n + 1) 114 5 (frm [(0,.imm 3 R1),(3,.ptr 0 0 0),(6,.sl 1),(7,.i .i64 a2)]) [some (Ent.box R2),some (Ent.lst 3 R3)] =
  (run (Qbi l a o) a2).map (fun (zr : Int)=>(XE.exit 0,frm [(0,.imm 3 (l.map VX)),(3,.ptr 0 0 0),(6,.sl 1),(7,.i .i64 zr)],[some (Ent.box (VX a)),some (Ent.lst 3 (o.map Q7))])):=by
 rcases H1,H2,H3 with ⟨⟨rfl⟩,⟨rfl⟩,⟨rfl⟩⟩
 rw [QH]
 simp -dsimp only [↓evA,evB,Qr,Tryz.func114,Tryz.f114,QDe,Qqv,TP,TZ,Nat.reduceAdd,Nat.reduceMul,Nat.reduceBEq,Nat.reduceLeDiff,Nat.reduceLT]
 apply Qu a2
 intro a2
 simp -dsimp +contextual only [↓evA,eZ,Nat.reduceAdd,Nat.reduceMul,Nat.reduceBEq,Nat.reduceLeDiff,Nat.reduceLT,srt]
 try simp only [Qbi,eY]
 all_goals rfl
theorem Qj6 {R1 l R2 a} [H1 : EncL VX R1 l] [H2 : EncR VX R2 a] : CP T (n + 6) 114 [.imm 3 R1,.agg R2] = (Qbt l a).map fun r=>.tup [.own 3 (r.1.map Q7),.b r.2]:=by
 rcases H1,H2 with ⟨⟨rfl⟩,⟨rfl⟩⟩
 rw [Qg]
 simp -dsimp +contextual only [↓evA,eZ,Nat.reduceAdd,Nat.reduceMul,Nat.reduceBEq,Nat.reduceLeDiff,Nat.reduceLT,Tryz.func114,Tryz.f114,QDe,Qqv,srt,QdM,QfJ,Qb1,QzE,QeF,Qg9]
 try simp only [Qbt,eY]
 all_goals first | rfl | (simp +contextual only [evN] <;> rfl)
theorem Qin (s b a2 a3) {R1 l R2 a} [H1 : EncL VT R1 l] [H2 : EncL VT R2 a] : LP T (n + 1) 180 3 (frm [(0,.imm 3 R1),(1,.i .i64 s),(5,.i .i64 b),(8,.imm 3 R2),(9,.i .i64 a2),(10,.i .i64 a3)]) [] =
  (run (QaM l s a a2) (b,a3)).map (fun (zr : Int)=>(XE.exit 0,frm [(5,.i .i64 zr)],[])):=by
 rcases H1,H2 with ⟨⟨rfl⟩,⟨rfl⟩⟩
 rw [QH]
 simp -dsimp only [↓evA,evB,Qr,Tryz.func180,Tryz.f180,QCX,Qps,TP,TZ,Nat.reduceAdd,Nat.reduceMul,Nat.reduceBEq,Nat.reduceLeDiff,Nat.reduceLT]
 apply VP b a3
 intro b a3
 simp -dsimp +contextual only [↓evA,eZ,Nat.reduceAdd,Nat.reduceMul,Nat.reduceBEq,Nat.reduceLeDiff,Nat.reduceLT]
 try simp only [QaM,eY]
 all_goals rfl
theorem QlM (s) {R1 l} [H1 : EncL VT R1 l] : CP T (n + 2) 180 [.imm 3 R1,.i .i64 s] = (QcR l s).map fun r=>.i .i64 r:=by
 obtain ⟨rfl⟩:=H1
 rw [Qg]
 simp -dsimp +contextual only [↓evA,eZ,Nat.reduceAdd,Nat.reduceMul,Nat.reduceBEq,Nat.reduceLeDiff,Nat.reduceLT,Tryz.func180,Tryz.f180,QCX,Qps,Qin]
 try simp only [QcR,eY]
 all_goals rfl
theorem Qmr {R1 l R2 a} [H1 : EncL VT R1 l] [H2 : EncR QcB R2 a] : CP T (n + 8) 115 [.imm 3 R1,.agg R2] = (QbR l a).map fun r=>.tup [.own 3 (r.1.map VT),.b r.2]:=by
 rcases H1,H2 with ⟨⟨rfl⟩,⟨rfl⟩⟩
 rw [Qg]
 simp -dsimp +contextual only [↓evA,eZ,Nat.reduceAdd,Nat.reduceMul,Nat.reduceBEq,Nat.reduceLeDiff,Nat.reduceLT,Tryz.func115,Tryz.f115,QI4,Qty,Qb0,QlM,QdE,Qel,Je]
 try simp only [QbR,eY]
 all_goals first | rfl | (simp +contextual only [evN] <;> rfl)
theorem QgE {R1 l R2 a} [H1 : EncL VS R1 l] [H2 : EncR VS R2 a] : CP T (n + 9) 116 [.imm 5 R1,.agg R2] = (QbT l a).map fun r=>.tup [.own 5 (r.1.map VS),.b r.2]:=by
 rcases H1,H2 with ⟨⟨rfl⟩,⟨rfl⟩⟩
 rw [Qg]
 simp -dsimp +contextual only [↓evA,eZ,Nat.reduceAdd,Nat.reduceMul,Nat.reduceBEq,Nat.reduceLeDiff,Nat.reduceLT,Tryz.func116,Tryz.f116,QJR,Qth,QfQ,QdL,Qd4]
 try simp only [QbT,eY]
 try simp only [List.contains_nil,Bool.not_false,Bool.and_true,Qbo,List.length_append,List.length_cons,List.length_nil,Nat.zero_add,Qc9,Qdz]
 all_goals first | rfl | (simp +contextual only [evN] <;> rfl)
theorem Qfk (v a a2) {R1 s} [H1 : EncL c_b R1 s] : LP T (n + 1) 233 2 (frm [(0,.imm 1 R1),(1,.b v),(7,.i .i64 a),(8,.i .i64 a2)]) [] =
  JF (run (XI s v a) a2) (fun (zr : Int)=>(XE.ret,frm [(4,.i .i64 zr)],[])) (fun (zr : Unit)=>(XE.exit 0,frm [],[])):=by
 obtain ⟨rfl⟩:=H1
 rw [QH]
 simp -dsimp only [↓evA,evB,Qr,Tryz.func233,Tryz.f233,QDi,Qpp,TP,TZ,Nat.reduceAdd,Nat.reduceMul,Nat.reduceBEq,Nat.reduceLeDiff,Nat.reduceLT]
 apply Qu a2
 intro a2
 simp -dsimp +contextual only [↓evA,eZ,Nat.reduceAdd,Nat.reduceMul,Nat.reduceBEq,Nat.reduceLeDiff,Nat.reduceLT]
 try simp only [XI,eY]
 all_goals rfl
theorem Qhq (v) {R1 s} [H1 : EncL c_b R1 s] : CP T (n + 2) 233 [.imm 1 R1,.b v] = (Qbg s v).map fun r=>.i .i64 r:=by
 obtain ⟨rfl⟩:=H1
 rw [Qg]
 simp -dsimp +contextual only [↓evA,eZ,Nat.reduceAdd,Nat.reduceMul,Nat.reduceBEq,Nat.reduceLeDiff,Nat.reduceLT,Tryz.func233,Tryz.f233,QDi,Qpp,Qfk]
 try simp only [Qbg,eY]
 all_goals rfl
theorem Qat (v) {R1 s} [H1 : EncL c_b R1 s] : CP T (n + 3) 181 [.imm 1 R1,.b v] = (VO s v).map fun r=>.b r:=by
 obtain ⟨rfl⟩:=H1
 rw [Qg]
 simp -dsimp +contextual only [↓evA,eZ,Nat.reduceAdd,Nat.reduceMul,Nat.reduceBEq,Nat.reduceLeDiff,Nat.reduceLT,Tryz.func181,Tryz.f181,QOl,QtZ,Qhq]
 try simp only [VO,eY]
 all_goals rfl
theorem Qag (oxNo oxNow) {R1 a R2 oxFinds R3 oxSecrets R4 oxSlots R5 oxClaims R6 oxTrials R7 oxChain R8 oxBook R9 d} [H1 : EncR QM R1 a] [H2 : EncL Vf R2 oxFinds] [H3 : EncL Q7 R3 oxSecrets] [H4 : EncL VT R4 oxSlots] [H5 : EncL Qs R5 oxClaims] [H6 : EncL VB R6 oxTrials] [H7 : EncL VS R7 oxChain] [H8 : EncL VN R8 oxBook] [H9 : EncL c_b R9 d] : CM T (n + 12) 117 [some (Ent.lst 8 R2),some (Ent.lst 3 R3),some (Ent.lst 3 R4),some (Ent.lst 5 R5),some (Ent.lst 4 R6),some (Ent.lst 5 R7),some (Ent.lst 4 R8),some (Ent.lst 1 R9)] [.agg R1,.agg [.i .i64 oxNo,.sl 0,.sl 1,.sl 2,.sl 3,.sl 4,.sl 5,.sl 6,.i .i64 oxNow],.sl 7] = (VG a (⟨oxNo,oxFinds,oxSecrets,oxSlots,oxClaims,oxTrials,oxChain,oxBook,oxNow⟩ : House) d).map fun r=>.tup [.agg (JH r.1),.b r.2]:=by
 rcases H1,H2,H3,H4,H5,H6,H7,H8,H9 with ⟨⟨rfl⟩,⟨rfl⟩,⟨rfl⟩,⟨rfl⟩,⟨rfl⟩,⟨rfl⟩,⟨rfl⟩,⟨rfl⟩,⟨rfl⟩⟩
 rw [Qtw]
 simp -dsimp +contextual (maxSteps:=100000000) only [↓evA,eZ,Nat.reduceAdd,Nat.reduceMul,Nat.reduceBEq,Nat.reduceLeDiff,Nat.reduceLT,Tryz.func117,Tryz.f117,QxT,Qnt,Qat,Jy,Vh]
 try simp only [VG,eY]
 all_goals rfl
theorem QkI (s) {R1 a R2 f R3 m} [H1 : EncR QM R1 a] [H2 : EncR Vf R2 f] [H3 : EncL XW R3 m] : CP T (n + 13) 52 [.agg R1,.agg R2,.imm 2 R3,.i .i64 s] = (Qb5 a f m s).map fun r=>.tup [.agg (JH r.1),.b r.2]:=by
 rcases H1,H2,H3 with ⟨⟨rfl⟩,⟨rfl⟩,⟨rfl⟩⟩
 rw [Qg]
 simp -dsimp +contextual (maxSteps:=100000000) only [↓evA,eZ,Nat.reduceAdd,Nat.reduceMul,Nat.reduceBEq,Nat.reduceLeDiff,Nat.reduceLT,Tryz.func52,Tryz.f52,QRQ,Qzp,srt,Vh,QmR,Qj6,Qmr,QgE,Qag]
 try simp only [Qb5,eY]
 all_goals rfl
theorem Qh6 (c) {R1 a} [H1 : EncR Qs R1 a] : CP T (n + 1) 144 [.agg R1,.iptr 1 [[.i .i64 c]] 0 0] = (QbP a c).map fun r=>.b r:=by
 obtain ⟨rfl⟩:=H1
 rw [Qg]
 simp -dsimp +contextual only [↓evA,eZ,Nat.reduceAdd,Nat.reduceMul,Nat.reduceBEq,Nat.reduceLeDiff,Nat.reduceLT,Tryz.func144,Tryz.f144,QOg,QsN]
 try simp only [QbP,eY]
 all_goals rfl
theorem ZU (f a a2) {R1 s} [H1 : EncL Qs R1 s] : LP T (n + 2) 143 2 (frm [(0,.imm 5 R1),(1,.clo 144 [.iptr 1 [[.i .i64 f]] 0 0]),(7,.i .i64 a),(8,.i .i64 a2)]) [] =
  JF (run (Qy s f a) a2) (fun (zr : Int)=>(XE.ret,frm [(4,.i .i64 zr)],[])) (fun (zr : Unit)=>(XE.exit 0,frm [],[])):=by
 obtain ⟨rfl⟩:=H1
 rw [QH]
 simp -dsimp only [↓evA,evB,Qr,Tryz.func143,Tryz.f143,Qkt,Qgm,TP,TZ,Nat.reduceAdd,Nat.reduceMul,Nat.reduceBEq,Nat.reduceLeDiff,Nat.reduceLT]
 apply Qu a2
 intro a2
 simp -dsimp +contextual only [↓evA,eZ,Nat.reduceAdd,Nat.reduceMul,Nat.reduceBEq,Nat.reduceLeDiff,Nat.reduceLT,Qh6]
 try simp only [Qy,eY]
 all_goals rfl
theorem Qax (c) {R1 s} [H1 : EncL Qs R1 s] : CP T (n + 3) 143 [.imm 5 R1,.clo 144 [.iptr 1 [[.i .i64 c]] 0 0]] = (Vl s c).map fun r=>.i .i64 r:=by
 obtain ⟨rfl⟩:=H1
 rw [Qg]
 simp -dsimp +contextual only [↓evA,eZ,Nat.reduceAdd,Nat.reduceMul,Nat.reduceBEq,Nat.reduceLeDiff,Nat.reduceLT,Tryz.func143,Tryz.f143,Qkt,Qgm,ZU]
 try simp only [Vl,eY]
 all_goals rfl
theorem Zf (i) {R1 l} [H1 : EncL Qs R1 l] : CP T (n + 4) 73 [.imm 5 R1,.i .i64 i] = (Xc l i).map fun r=>.i .i64 r:=by
 obtain ⟨rfl⟩:=H1
 rw [Qg]
 simp -dsimp +contextual only [↓evA,eZ,Nat.reduceAdd,Nat.reduceMul,Nat.reduceBEq,Nat.reduceLeDiff,Nat.reduceLT,Tryz.func73,Tryz.f73,QPz,QAB,Qax]
 try simp only [Xc,eY]
 all_goals rfl
theorem Qis {R1 a R2 c} [H1 : EncR Qs R1 a] [H2 : EncR Qs R2 c] : CP T (n + 1) 182 [.agg R1,.iptr 5 [R2] 0 0] = (Qck a c).map fun r=>.b r:=by
 rcases H1,H2 with ⟨⟨rfl⟩,⟨rfl⟩⟩
 rw [Qg]
 simp -dsimp +contextual only [↓evA,eZ,Nat.reduceAdd,Nat.reduceMul,Nat.reduceBEq,Nat.reduceLeDiff,Nat.reduceLT,Tryz.func182,Tryz.f182,QJK,QsG]
 try simp only [Qck,eY]
 all_goals rfl
theorem Qah (a a2) {R1 s R2 f} [H1 : EncL Qs R1 s] [H2 : EncR Qs R2 f] : LP T (n + 2) 143 2 (frm [(0,.imm 5 R1),(1,.clo 182 [.iptr 5 [R2] 0 0]),(7,.i .i64 a),(8,.i .i64 a2)]) [] =
  JF (run (Qz s f a) a2) (fun (zr : Int)=>(XE.ret,frm [(4,.i .i64 zr)],[])) (fun (zr : Unit)=>(XE.exit 0,frm [],[])):=by
 rcases H1,H2 with ⟨⟨rfl⟩,⟨rfl⟩⟩
 rw [QH]
 simp -dsimp only [↓evA,evB,Qr,Tryz.func143,Tryz.f143,Qkt,Qgm,TP,TZ,Nat.reduceAdd,Nat.reduceMul,Nat.reduceBEq,Nat.reduceLeDiff,Nat.reduceLT]
 apply Qu a2
 intro a2
 simp -dsimp +contextual only [↓evA,eZ,Nat.reduceAdd,Nat.reduceMul,Nat.reduceBEq,Nat.reduceLeDiff,Nat.reduceLT,Qis]
 try simp only [Qz,eY]
 all_goals rfl
theorem QaU {R1 s R2 c} [H1 : EncL Qs R1 s] [H2 : EncR Qs R2 c] : CP T (n + 3) 143 [.imm 5 R1,.clo 182 [.iptr 5 [R2] 0 0]] = (Vq s c).map fun r=>.i .i64 r:=by
 rcases H1,H2 with ⟨⟨rfl⟩,⟨rfl⟩⟩
 rw [Qg]
 simp -dsimp +contextual only [↓evA,eZ,Nat.reduceAdd,Nat.reduceMul,Nat.reduceBEq,Nat.reduceLeDiff,Nat.reduceLT,Tryz.func143,Tryz.f143,Qkt,Qgm,Qah]
 try simp only [Vq,eY]
 all_goals rfl
theorem Qai {R1 s R2 c} [H1 : EncL Qs R1 s] [H2 : EncR Qs R2 c] : CP T (n + 4) 71 [.imm 5 R1,.clo 182 [.iptr 5 [R2] 0 0]] = (QO s c).map fun r=>.b r:=by
 rcases H1,H2 with ⟨⟨rfl⟩,⟨rfl⟩⟩
 rw [Qg]
 simp -dsimp +contextual only [↓evA,eZ,Nat.reduceAdd,Nat.reduceMul,Nat.reduceBEq,Nat.reduceLeDiff,Nat.reduceLT,Tryz.func71,Tryz.f71,QE2,Quw,QaU]
 try simp only [QO,eY]
 all_goals rfl
theorem QhJ (a2) {R1 l R2 a R3 o} [H1 : EncL Qs R1 l] [H2 : EncR Qs R2 a] [H3 : EncL Qs R3 o] : LP T (n + 1) 118 5 (frm [(0,.imm 5 R1),(3,.ptr 0 0 0),(6,.sl 1),(7,.i .i64 a2)]) [some (Ent.box R2),some (Ent.lst 5 R3)] =
  (run (Ze l a o) a2).map (fun (zr : Int)=>(XE.exit 0,frm [(0,.imm 5 (l.map Qs)),(3,.ptr 0 0 0),(6,.sl 1),(7,.i .i64 zr)],[some (Ent.box (Qs a)),some (Ent.lst 5 (o.map Qs))])):=by
 rcases H1,H2,H3 with ⟨⟨rfl⟩,⟨rfl⟩,⟨rfl⟩⟩
 rw [QH]
 simp -dsimp only [↓evA,evB,Qr,Tryz.func118,Tryz.f118,QC5,QpJ,TP,TZ,Nat.reduceAdd,Nat.reduceMul,Nat.reduceBEq,Nat.reduceLeDiff,Nat.reduceLT]
 apply Qu a2
 intro a2
 simp -dsimp +contextual only [↓evA,eZ,Nat.reduceAdd,Nat.reduceMul,Nat.reduceBEq,Nat.reduceLeDiff,Nat.reduceLT,srt]
 try simp only [Ze,eY]
 all_goals rfl
theorem QkH {R1 l R2 a} [H1 : EncL Qs R1 l] [H2 : EncR Qs R2 a] : CP T (n + 5) 118 [.imm 5 R1,.agg R2] = (Qcf l a).map fun r=>.tup [.own 5 (r.1.map Qs),.b r.2]:=by
 rcases H1,H2 with ⟨⟨rfl⟩,⟨rfl⟩⟩
 rw [Qg]
 simp -dsimp +contextual only [↓evA,eZ,Nat.reduceAdd,Nat.reduceMul,Nat.reduceBEq,Nat.reduceLeDiff,Nat.reduceLT,Tryz.func118,Tryz.f118,QC5,QpJ,srt,QbC,Zf,Qai,QzQ,Qdf,QhJ]
 try simp only [Qcf,eY]
 all_goals first | rfl | (simp +contextual only [evN] <;> rfl)
theorem QiZ (oxNo oxNow) {R1 a R2 oxFinds R3 oxSecrets R4 oxSlots R5 oxClaims R6 oxTrials R7 oxChain R8 oxBook} [H1 : EncR QM R1 a] [H2 : EncL Vf R2 oxFinds] [H3 : EncL Q7 R3 oxSecrets] [H4 : EncL VT R4 oxSlots] [H5 : EncL Qs R5 oxClaims] [H6 : EncL VB R6 oxTrials] [H7 : EncL VS R7 oxChain] [H8 : EncL VN R8 oxBook] : CM T (n + 12) 117 [some (Ent.lst 8 R2),some (Ent.lst 3 R3),some (Ent.lst 3 R4),some (Ent.lst 5 R5),some (Ent.lst 4 R6),some (Ent.lst 5 R7),some (Ent.lst 4 R8)] [.agg R1,.agg [.i .i64 oxNo,.sl 0,.sl 1,.sl 2,.sl 3,.sl 4,.sl 5,.sl 6,.i .i64 oxNow],.nil] = (QaJ a (⟨oxNo,oxFinds,oxSecrets,oxSlots,oxClaims,oxTrials,oxChain,oxBook,oxNow⟩ : House)).map fun r=>.tup [.agg (JH r.1),.b r.2]:=by
 rcases H1,H2,H3,H4,H5,H6,H7,H8 with ⟨⟨rfl⟩,⟨rfl⟩,⟨rfl⟩,⟨rfl⟩,⟨rfl⟩,⟨rfl⟩,⟨rfl⟩,⟨rfl⟩⟩
 rw [Qtw]
 simp -dsimp +contextual (maxSteps:=100000000) only [↓evA,eZ,Nat.reduceAdd,Nat.reduceMul,Nat.reduceBEq,Nat.reduceLeDiff,Nat.reduceLT,Tryz.func117,Tryz.f117,QxT,Qnt,Qat,Jy,Vh]
 try simp only [QaJ,eY]
 all_goals rfl
theorem Qj7 (i w a2) {R1 a} [H1 : EncR QM R1 a] : CP T (n + 13) 53 [.agg R1,.i .i64 i,.i .i64 w,.i .i64 a2] = (Qbp a i w a2).map fun r=>.tup [.agg (JH r.1),.b r.2]:=by
 obtain ⟨rfl⟩:=H1
 rw [Qg]
 simp -dsimp +contextual (maxSteps:=100000000) only [↓evA,eZ,Nat.reduceAdd,Nat.reduceMul,Nat.reduceBEq,Nat.reduceLeDiff,Nat.reduceLT,Tryz.func53,Tryz.f53,QQf,QBa,srt,Vh,QkH,Jy,Je,Zf,QB5,QiZ]
 try simp only [Qbp,eY]
 try simp only [List.contains_nil,Bool.not_false,Bool.and_true,Qbo,List.length_append,List.length_cons,List.length_nil,Nat.zero_add,Qc9,Qdz]
 all_goals rfl
theorem Qh0 (c a) {R1 l} [H1 : EncL XW R1 l] : CP T (n + 6) 237 [.imm 2 R1,.i .i64 c,.i .i64 a] = (Z8 l c a).map fun r=>.i .i64 r:=by
 obtain ⟨rfl⟩:=H1
 rw [Qg]
 simp -dsimp +contextual only [↓evA,eZ,Nat.reduceAdd,Nat.reduceMul,Nat.reduceBEq,Nat.reduceLeDiff,Nat.reduceLT,Tryz.func237,Tryz.f237,QJw,Qup,QdJ,Q0,Qkl]
 try simp only [Z8,eY]
 all_goals rfl
theorem Qhh {R1 l R2 a} [H1 : EncL XW R1 l] [H2 : EncR VB R2 a] : CP T (n + 7) 186 [.imm 2 R1,.agg R2] = (ZJ l a).map fun r=>.i .i64 r:=by
 rcases H1,H2 with ⟨⟨rfl⟩,⟨rfl⟩⟩
 rw [Qg]
 simp -dsimp +contextual only [↓evA,eZ,Nat.reduceAdd,Nat.reduceMul,Nat.reduceBEq,Nat.reduceLeDiff,Nat.reduceLT,Tryz.func186,Tryz.f186,QIz,Qsr,QcG,Qh0]
 try simp only [ZJ,eY]
 all_goals rfl
theorem QhK (q a2 a3) {R1 a} [H1 : EncL XW R1 a] : LP T (n + 1) 187 2 (frm [(1,.i .i64 q),(7,.imm 2 R1),(8,.i .i64 a2),(9,.i .i64 a3)]) [] =
  JF (run (Zg q a a2) a3) (fun (zr : Int)=>(XE.ret,frm [(4,.i .i64 zr)],[])) (fun (zr : Unit)=>(XE.exit 0,frm [],[])):=by
 obtain ⟨rfl⟩:=H1
 rw [QH]
 simp -dsimp only [↓evA,evB,Qr,Tryz.func187,Tryz.f187,QDf,QqF,TP,TZ,Nat.reduceAdd,Nat.reduceMul,Nat.reduceBEq,Nat.reduceLeDiff,Nat.reduceLT]
 apply Qu a3
 intro a3
 simp -dsimp +contextual only [↓evA,eZ,Nat.reduceAdd,Nat.reduceMul,Nat.reduceBEq,Nat.reduceLeDiff,Nat.reduceLT]
 try simp only [Zg,eY]
 all_goals rfl
theorem QkU (q) {R1 l} [H1 : EncL XW R1 l] : CP T (n + 2) 187 [.imm 2 R1,.i .i64 q] = (Qce l q).map fun r=>.i .i64 r:=by
 obtain ⟨rfl⟩:=H1
 rw [Qg]
 simp -dsimp +contextual only [↓evA,eZ,Nat.reduceAdd,Nat.reduceMul,Nat.reduceBEq,Nat.reduceLeDiff,Nat.reduceLT,Tryz.func187,Tryz.f187,QDf,QqF,QhK]
 try simp only [Qce,eY]
 all_goals rfl
theorem Qiq (a2) {R1 l R2 a} [H1 : EncL XW R1 l] [H2 : EncR VB R2 a] : CP T (n + 8) 120 [.imm 2 R1,.agg R2,.i .i64 a2] = (QaY l a a2).map fun r=>.tup [.agg (VB r.1),.b r.2]:=by
 rcases H1,H2 with ⟨⟨rfl⟩,⟨rfl⟩⟩
 rw [Qg]
 simp -dsimp +contextual only [↓evA,eZ,Nat.reduceAdd,Nat.reduceMul,Nat.reduceBEq,Nat.reduceLeDiff,Nat.reduceLT,Tryz.func120,Tryz.f120,QJx,QtF,Qhh,QkU]
 try simp only [QaY,eY]
 all_goals rfl
theorem QfR (i s) {R1 l} [H1 : EncL Qs R1 l] : CP T (n + 5) 121 [.imm 5 R1,.i .i64 i,.i .i64 s] = (Jo l i s).map fun r=>.tup [.own 5 (r.1.map Qs),.b r.2]:=by
 obtain ⟨rfl⟩:=H1
 rw [Qg]
 simp -dsimp +contextual only [↓evA,eZ,Nat.reduceAdd,Nat.reduceMul,Nat.reduceBEq,Nat.reduceLeDiff,Nat.reduceLT,Tryz.func121,Tryz.f121,QOB,QsX,QbC,Zf,Qdf]
 try simp only [Jo,eY]
 all_goals first | rfl | (simp +contextual only [evN] <;> rfl)
theorem QiX (c a2) {R1 a} [H1 : EncR QM R1 a] : CP T (n + 13) 54 [.agg R1,.i .i64 c,.i .i64 a2] = (QaR a c a2).map fun r=>.tup [.agg (JH r.1),.b r.2]:=by
 obtain ⟨rfl⟩:=H1
 rw [Qg]
 simp -dsimp +contextual (maxSteps:=100000000) only [↓evA,eZ,Nat.reduceAdd,Nat.reduceMul,Nat.reduceBEq,Nat.reduceLeDiff,Nat.reduceLT,Tryz.func54,Tryz.f54,QTb,QAd,srt,Vh,Zf,Jy,Qee,Qiq,QcG,QfR,Qag]
 try simp only [QaR,eY]
 all_goals rfl
theorem QeO (a2) {R1 a} [H1 : EncR QM R1 a] : CP T (n + 12) 122 [.agg R1,.i .i64 a2] = (Qas a a2).map fun r=>.tup [.agg (Vf r.1),.b r.2]:=by
 obtain ⟨rfl⟩:=H1
 rw [Qg]
 simp -dsimp +contextual (maxSteps:=100000000) only [↓evA,eZ,Nat.reduceAdd,Nat.reduceMul,Nat.reduceBEq,Nat.reduceLeDiff,Nat.reduceLT,Tryz.func122,Tryz.f122,QLE,Qun,XG,Jy,Je]
 try simp only [Qas,eY]
 all_goals rfl
theorem QfV (a f a3 a4) {R1 b R2 a2} [H1 : EncR Qs R1 b] [H2 : EncL Qs R2 a2] : LP T (n + 1) 69 4 (frm [(1,.i .i64 a),(5,.ptr 0 0 0),(6,.b f),(10,.imm 5 R2),(11,.i .i64 a3),(12,.i .i64 a4)]) [some (Ent.box R1)] =
  (run (Ve a a2 a3) (b,f,a4)).map (fun (zr : Claim)=>(XE.exit 0,frm [(5,.ptr 0 0 0)],[some (Ent.box (Qs zr))])):=by
 rcases H1,H2 with ⟨⟨rfl⟩,⟨rfl⟩⟩
 rw [QH]
 simp -dsimp only [↓evA,evB,Qr,Tryz.func69,Tryz.f69,QNy,Qza,TP,TZ,Nat.reduceAdd,Nat.reduceMul,Nat.reduceBEq,Nat.reduceLeDiff,Nat.reduceLT]
 apply Qd9 b f a4
 intro b f a4
 simp -dsimp +contextual only [↓evA,eZ,Nat.reduceAdd,Nat.reduceMul,Nat.reduceBEq,Nat.reduceLeDiff,Nat.reduceLT]
 try simp only [Ve,eY]
 all_goals rfl
theorem Qcq (a) {R1 l} [H1 : EncL Qs R1 l] : CP T (n + 2) 69 [.imm 5 R1,.i .i64 a] = (XL l a).map fun r=>.i .i64 r:=by
 obtain ⟨rfl⟩:=H1
 rw [Qg]
 simp -dsimp +contextual only [↓evA,eZ,Nat.reduceAdd,Nat.reduceMul,Nat.reduceBEq,Nat.reduceLeDiff,Nat.reduceLT,Tryz.func69,Tryz.f69,QNy,Qza,QfV]
 try simp only [XL,eY]
 all_goals rfl
theorem Qlx (a) {R1 l} [H1 : EncL VT R1 l] : CP T (n + 8) 188 [.imm 3 R1,.i .i64 a] = (QbH l a).map fun r=>.tup [.own 3 (r.1.map VT),.b r.2]:=by
 obtain ⟨rfl⟩:=H1
 rw [Qg]
 simp -dsimp +contextual only [↓evA,eZ,Nat.reduceAdd,Nat.reduceMul,Nat.reduceBEq,Nat.reduceLeDiff,Nat.reduceLT,Tryz.func188,Tryz.f188,QKz,Qsw,Qb0,Je,QdE]
 try simp only [QbH,eY]
 all_goals first | rfl | (simp +contextual only [evN] <;> rfl)
theorem QeW (a2 a3 w) {R1 a} [H1 : EncR QM R1 a] : CP T (n + 10) 123 [.agg R1,.i .i64 a2,.i .i64 a3,.i .i64 w] = (ZK a a2 a3 w).map fun r=>.tup [.agg (JH r.1),.b r.2]:=by
 obtain ⟨rfl⟩:=H1
 rw [Qg]
 simp -dsimp +contextual (maxSteps:=100000000) only [↓evA,eZ,Nat.reduceAdd,Nat.reduceMul,Nat.reduceBEq,Nat.reduceLeDiff,Nat.reduceLT,Tryz.func123,Tryz.f123,QKt,Qtr,Vh,Qlx,QgE]
 try simp only [ZK,eY]
 all_goals rfl
theorem Qm7 (d) {R1 a} [H1 : EncR QcB R1 a] : CP T (n + 3) 124 [.agg R1,.i .i64 d] = (QdC a d).map fun r=>.i .i64 r:=by
 obtain ⟨rfl⟩:=H1
 rw [Qg]
 simp -dsimp +contextual only [↓evA,eZ,Nat.reduceAdd,Nat.reduceMul,Nat.reduceBEq,Nat.reduceLeDiff,Nat.reduceLT,Tryz.func124,Tryz.f124,QNe,QsW,Qel,Q0]
 try simp only [QdC,eY]
 all_goals rfl
theorem QfN {R1 l R2 a} [H1 : EncL VN R1 l] [H2 : EncR VN R2 a] : CP T (n + 4) 125 [.imm 4 R1,.agg R2] = (J4 l a).map fun r=>.tup [.own 4 (r.1.map VN),.b r.2]:=by
 rcases H1,H2 with ⟨⟨rfl⟩,⟨rfl⟩⟩
 rw [Qg]
 simp -dsimp +contextual only [↓evA,eZ,Nat.reduceAdd,Nat.reduceMul,Nat.reduceBEq,Nat.reduceLeDiff,Nat.reduceLT,Tryz.func125,Tryz.f125,QLM,Quk,Qdx,Qbl]
 try simp only [J4,eY]
 try simp only [List.contains_nil,Bool.not_false,Bool.and_true,Qbo,List.length_append,List.length_cons,List.length_nil,Nat.zero_add,Qc9,Qdz]
 all_goals first | rfl | (simp +contextual only [evN] <;> rfl)
theorem QjF (a2) {R1 a} [H1 : EncR QM R1 a] : CP T (n + 13) 55 [.agg R1,.i .i64 a2] = (Qbq a a2).map fun r=>.tup [.agg (JH r.1),.b r.2]:=by
 obtain ⟨rfl⟩:=H1
 rw [Qg]
 simp -dsimp +contextual (maxSteps:=100000000) only [↓evA,eZ,Nat.reduceAdd,Nat.reduceMul,Nat.reduceBEq,Nat.reduceLeDiff,Nat.reduceLT,Tryz.func55,Tryz.f55,QQK,QBA,srt,QeO,Qcq,Vh,Zf,QeW,QfR,Qm7,QfN,Qag]
 try simp only [Qbq,eY]
 all_goals rfl
theorem QoS {R1 a} [H1 : EncR JE R1 a] : CP T (n + 2) 238 [.agg R1] = (Qd5 a).map fun r=>.b r:=by
 obtain ⟨rfl⟩:=H1
 rw [Qg]
 simp -dsimp +contextual only [↓evA,eZ,Nat.reduceAdd,Nat.reduceMul,Nat.reduceBEq,Nat.reduceLeDiff,Nat.reduceLT,Tryz.func238,Tryz.f238,QMm,Qs7,Q0]
 try simp only [Qd5,eY]
 all_goals rfl
theorem QjO {R1 a R2 c} [H1 : EncR JE R1 a] [H2 : EncR JE R2 c] : CP T (n + 1) 240 [.agg R1,.iptr 3 [R2] 0 0] = (QcI a c).map fun r=>.b r:=by
 rcases H1,H2 with ⟨⟨rfl⟩,⟨rfl⟩⟩
 rw [Qg]
 simp -dsimp +contextual only [↓evA,eZ,Nat.reduceAdd,Nat.reduceMul,Nat.reduceBEq,Nat.reduceLeDiff,Nat.reduceLT,Tryz.func240,Tryz.f240,QJl,QtN]
 try simp only [QcI,eY]
 all_goals rfl
theorem QaT (a a2) {R1 s R2 f} [H1 : EncL JE R1 s] [H2 : EncR JE R2 f] : LP T (n + 2) 275 2 (frm [(0,.imm 3 R1),(1,.clo 240 [.iptr 3 [R2] 0 0]),(7,.i .i64 a),(8,.i .i64 a2)]) [] =
  JF (run (QI s f a) a2) (fun (zr : Int)=>(XE.ret,frm [(4,.i .i64 zr)],[])) (fun (zr : Unit)=>(XE.exit 0,frm [],[])):=by
 rcases H1,H2 with ⟨⟨rfl⟩,⟨rfl⟩⟩
 rw [QH]
 simp -dsimp only [↓evA,evB,Qr,Tryz.func275,Tryz.f275,QCS,Qqt,TP,TZ,Nat.reduceAdd,Nat.reduceMul,Nat.reduceBEq,Nat.reduceLeDiff,Nat.reduceLT]
 apply Qu a2
 intro a2
 simp -dsimp +contextual only [↓evA,eZ,Nat.reduceAdd,Nat.reduceMul,Nat.reduceBEq,Nat.reduceLeDiff,Nat.reduceLT,QjO]
 try simp only [QI,eY]
 all_goals rfl
theorem Qbw {R1 s R2 c} [H1 : EncL JE R1 s] [H2 : EncR JE R2 c] : CP T (n + 3) 275 [.imm 3 R1,.clo 240 [.iptr 3 [R2] 0 0]] = (VH s c).map fun r=>.i .i64 r:=by
 rcases H1,H2 with ⟨⟨rfl⟩,⟨rfl⟩⟩
 rw [Qg]
 simp -dsimp +contextual only [↓evA,eZ,Nat.reduceAdd,Nat.reduceMul,Nat.reduceBEq,Nat.reduceLeDiff,Nat.reduceLT,Tryz.func275,Tryz.f275,QCS,Qqt,QaT]
 try simp only [VH,eY]
 all_goals rfl
theorem Qa1 {R1 s R2 c} [H1 : EncL JE R1 s] [H2 : EncR JE R2 c] : CP T (n + 4) 239 [.imm 3 R1,.clo 240 [.iptr 3 [R2] 0 0]] = (Q4 s c).map fun r=>.b r:=by
 rcases H1,H2 with ⟨⟨rfl⟩,⟨rfl⟩⟩
 rw [Qg]
 simp -dsimp +contextual only [↓evA,eZ,Nat.reduceAdd,Nat.reduceMul,Nat.reduceBEq,Nat.reduceLeDiff,Nat.reduceLT,Tryz.func239,Tryz.f239,QN1,Qtb,Qbw]
 try simp only [Q4,eY]
 all_goals rfl
theorem Qil (a2 a3) {R1 l R2 a} [H1 : EncL JE R1 l] [H2 : EncL JE R2 a] : LP T (n + 5) 189 4 (frm [(0,.imm 3 R1),(8,.imm 3 R2),(9,.i .i64 a2),(10,.i .i64 a3)]) [] =
  JF (run (ZB l a a2) a3) (fun (zr : Bool)=>(XE.ret,frm [(2,.b zr)],[])) (fun (zr : Unit)=>(XE.exit 0,frm [],[])):=by
 rcases H1,H2 with ⟨⟨rfl⟩,⟨rfl⟩⟩
 rw [QH]
 simp -dsimp only [↓evA,evB,Qr,Tryz.func189,Tryz.f189,QCY,Qpk,TP,TZ,Nat.reduceAdd,Nat.reduceMul,Nat.reduceBEq,Nat.reduceLeDiff,Nat.reduceLT]
 apply Qu a3
 intro a3
 simp -dsimp +contextual only [↓evA,eZ,Nat.reduceAdd,Nat.reduceMul,Nat.reduceBEq,Nat.reduceLeDiff,Nat.reduceLT,QoS,Qa1]
 try simp only [ZB,eY]
 all_goals rfl
theorem QmH {R1 l} [H1 : EncL JE R1 l] : CP T (n + 6) 189 [.imm 3 R1] = (Qd0 l).map fun r=>.b r:=by
 obtain ⟨rfl⟩:=H1
 rw [Qg]
 simp -dsimp +contextual only [↓evA,eZ,Nat.reduceAdd,Nat.reduceMul,Nat.reduceBEq,Nat.reduceLeDiff,Nat.reduceLT,Tryz.func189,Tryz.f189,QCY,Qpk,Qil]
 try simp only [Qd0,eY]
 all_goals rfl
theorem QhS {R1 s} [H1 : EncL JE R1 s] : CP T (n + 1) 241 [.imm 3 R1] = (QbU s).map fun r=>.own 3 (r.map JE):=by
 obtain ⟨rfl⟩:=H1
 rw [Qg]
 simp -dsimp +contextual only [↓evA,eZ,Nat.reduceAdd,Nat.reduceMul,Nat.reduceBEq,Nat.reduceLeDiff,Nat.reduceLT,Tryz.func241,Tryz.f241,QLA,Qsv]
 try simp only [QbU,eY]
 all_goals first | rfl | (simp +contextual only [evN] <;> rfl)
theorem QkD (a) : CP T (n + 1) 250 [.i .i64 a] = (Qcc a).map fun r=>.b r:=by
 rw [Qg]
 simp -dsimp +contextual only [↓evA,eZ,Nat.reduceAdd,Nat.reduceMul,Nat.reduceBEq,Nat.reduceLeDiff,Nat.reduceLT,Tryz.func250,Tryz.f250,QHx,QtP]
 try simp only [Qcc,eY]
 all_goals rfl
theorem QiD (a a2) : CP T (n + 2) 244 [.i .i64 a,.i .i64 a2] = (Qcl a a2).map fun r=>.i .i64 r:=by
 rw [Qg]
 simp -dsimp +contextual only [↓evA,eZ,Nat.reduceAdd,Nat.reduceMul,Nat.reduceBEq,Nat.reduceLeDiff,Nat.reduceLT,Tryz.func244,Tryz.f244,QKw,QsO,QkD]
 try simp only [Qcl,eY]
 all_goals rfl
theorem Qhp {R1 a R2 b} [H1 : EncR JE R1 a] [H2 : EncR JE R2 b] : CP T (n + 3) 243 [.agg R1,.agg R2] = (ZF a b).map fun r=>.i .i64 r:=by
 rcases H1,H2 with ⟨⟨rfl⟩,⟨rfl⟩⟩
 rw [Qg]
 simp -dsimp +contextual only [↓evA,eZ,Nat.reduceAdd,Nat.reduceMul,Nat.reduceBEq,Nat.reduceLeDiff,Nat.reduceLT,Tryz.func243,Tryz.f243,QKy,QtV,QiD]
 try simp only [ZF,eY]
 all_goals rfl
theorem JD (a b i j) {R1 d} [H1 : EncL JE R1 d] : LP T (n + 4) 289 4 (frm [(0,.sl 0),(1,.i .i64 a),(2,.i .i64 b),(3,.clo 243 []),(8,.i .i64 i),(9,.i .i64 j)]) [some (Ent.lst 3 R1)] =
  (run (Qq a b i) (d,j)).map (fun (zr : (List Bid))=>(XE.exit 2,frm [(0,.sl 0),(1,.i .i64 a),(2,.i .i64 b),(3,.clo 243 []),(8,.i .i64 i)],[some (Ent.lst 3 (zr.map JE))])):=by
 obtain ⟨rfl⟩:=H1
 rw [QH]
 simp -dsimp only [↓evA,evB,Qr,Tryz.func289,Tryz.f289,Qyf,Qnr,TP,TZ,Nat.reduceAdd,Nat.reduceMul,Nat.reduceBEq,Nat.reduceLeDiff,Nat.reduceLT]
 apply VP d j
 intro d j
 simp -dsimp +contextual only [↓evA,eZ,Nat.reduceAdd,Nat.reduceMul,Nat.reduceBEq,Nat.reduceLeDiff,Nat.reduceLT,Qhp]
 try simp only [Qq,eY]
 all_goals rfl
theorem JG (a b i) {R1 d} [H1 : EncL JE R1 d] : LP T (n + 5) 289 1 (frm [(0,.sl 0),(1,.i .i64 a),(2,.i .i64 b),(3,.clo 243 []),(8,.i .i64 i)]) [some (Ent.lst 3 R1)] =
  (run (Qk a b) (d,i)).map (fun (zr : (List Bid))=>(XE.exit 0,frm [(0,.sl 0)],[some (Ent.lst 3 (zr.map JE))])):=by
 obtain ⟨rfl⟩:=H1
 rw [QH]
 simp -dsimp only [↓evA,evB,Qr,Tryz.func289,Tryz.f289,Qyf,Qnr,TP,TZ,Nat.reduceAdd,Nat.reduceMul,Nat.reduceBEq,Nat.reduceLeDiff,Nat.reduceLT]
 apply VP d i
 intro d i
 simp -dsimp +contextual only [↓evA,eZ,Nat.reduceAdd,Nat.reduceMul,Nat.reduceBEq,Nat.reduceLeDiff,Nat.reduceLT,JD]
 try simp only [Qk,eY]
 all_goals rfl
theorem V6 (a b) {R1 d} [H1 : EncL JE R1 d] : CA T (n + 6) 289 [some (Ent.lst 3 R1)] [.sl 0,.i .i64 a,.i .i64 b,.clo 243 []] = (Qi d a b).map fun r=>(.tup [],[some (Ent.lst 3 (r.map JE))]):=by
 obtain ⟨rfl⟩:=H1
 rw [Qef]
 simp -dsimp +contextual only [↓evA,eZ,Nat.reduceAdd,Nat.reduceMul,Nat.reduceBEq,Nat.reduceLeDiff,Nat.reduceLT,Tryz.func289,Tryz.f289,Qyf,Qnr,JG]
 try simp only [Qi,eY]
 all_goals rfl
theorem Zs (a b a2 b2) {R1 d} [H1 : EncL JE R1 d] : LP T (n + 7) 276 2 (frm [(0,.sl 0),(1,.i .i64 a),(2,.clo 243 []),(6,.i .i64 b),(7,.i .i64 a2),(8,.i .i64 b2)]) [some (Ent.lst 3 R1)] =
  (run (Qo a b) (d,a2,b2)).map (fun (zr : (List Bid) × Int)=>(XE.exit 0,frm [(0,.sl 0),(1,.i .i64 a),(2,.clo 243 []),(6,.i .i64 b),(7,.i .i64 zr.2)],[some (Ent.lst 3 (zr.1.map JE))])):=by
 obtain ⟨rfl⟩:=H1
 rw [QH]
 simp -dsimp only [↓evA,evB,Qr,Tryz.func276,Tryz.f276,QtJ,QmC,TP,TZ,Nat.reduceAdd,Nat.reduceMul,Nat.reduceBEq,Nat.reduceLeDiff,Nat.reduceLT]
 apply Qd9 d a2 b2
 intro d a2 b2
 simp -dsimp +contextual only [↓evA,eZ,Nat.reduceAdd,Nat.reduceMul,Nat.reduceBEq,Nat.reduceLeDiff,Nat.reduceLT,srt,V6]
 try simp only [Qo,eY]
 all_goals rfl
theorem Zu (a b a2 b2) {R1 d} [H1 : EncL JE R1 d] : LP T (n + 2) 276 9 (frm [(0,.sl 0),(1,.i .i64 a),(2,.clo 243 []),(6,.i .i64 b),(7,.i .i64 a2),(8,.i .i64 b2)]) [some (Ent.lst 3 R1)] =
  (run (VD d a b a2 b2) ()).map (fun (zr : Unit)=>(XE.exit 4,frm [(0,.sl 0),(1,.i .i64 a),(2,.clo 243 []),(6,.i .i64 b),(7,.i .i64 a2)],[some (Ent.lst 3 (d.map JE))])):=by
 obtain ⟨rfl⟩:=H1
 rw [QH]
 simp -dsimp only [↓evA,evB,Qr,Tryz.func276,Tryz.f276,QtJ,QmC,TP,TZ,Nat.reduceAdd,Nat.reduceMul,Nat.reduceBEq,Nat.reduceLeDiff,Nat.reduceLT]
 apply QvY
 simp -dsimp +contextual only [↓evA,eZ,Nat.reduceAdd,Nat.reduceMul,Nat.reduceBEq,Nat.reduceLeDiff,Nat.reduceLT,srt]
 try simp only [VD,eY]
 all_goals rfl
theorem Zt (a b) {R1 d} [H1 : EncL JE R1 d] : LP T (n + 3) 276 7 (frm [(0,.sl 0),(1,.i .i64 a),(2,.clo 243 []),(6,.i .i64 b)]) [some (Ent.lst 3 R1)] =
  (run (QG d a) b).map (fun (zr : Unit)=>(XE.exit 2,frm [(0,.sl 0)],[some (Ent.lst 3 (d.map JE))])):=by
 obtain ⟨rfl⟩:=H1
 rw [QH]
 simp -dsimp only [↓evA,evB,Qr,Tryz.func276,Tryz.f276,QtJ,QmC,TP,TZ,Nat.reduceAdd,Nat.reduceMul,Nat.reduceBEq,Nat.reduceLeDiff,Nat.reduceLT]
 apply Qu b
 intro b
 simp -dsimp +contextual only [↓evA,eZ,Nat.reduceAdd,Nat.reduceMul,Nat.reduceBEq,Nat.reduceLeDiff,Nat.reduceLT,srt,Zu]
 try simp only [QG,eY]
 all_goals rfl
theorem ZV (a) {R1 d} [H1 : EncL JE R1 d] : CA T (n + 8) 276 [some (Ent.lst 3 R1)] [.sl 0,.i .i64 a,.clo 243 []] = (Vd d a).map fun r=>(.tup [],[some (Ent.lst 3 (r.map JE))]):=by
 obtain ⟨rfl⟩:=H1
 rw [Qef]
 simp -dsimp +contextual only [↓evA,eZ,Nat.reduceAdd,Nat.reduceMul,Nat.reduceBEq,Nat.reduceLeDiff,Nat.reduceLT,Tryz.func276,Tryz.f276,QtJ,QmC,srt,V6,Zs,Zt]
 try simp only [Vd,eY]
 all_goals rfl
theorem ZN {R1 a} [H1 : EncL JE R1 a] : CA T (n + 9) 242 [some (Ent.lst 3 R1)] [.sl 0,.clo 243 []] = (Va a).map fun r=>(.tup [],[some (Ent.lst 3 (r.map JE))]):=by
 obtain ⟨rfl⟩:=H1
 rw [Qef]
 simp -dsimp +contextual only [↓evA,eZ,Nat.reduceAdd,Nat.reduceMul,Nat.reduceBEq,Nat.reduceLeDiff,Nat.reduceLT,Tryz.func242,Tryz.f242,QJg,Qua,srt,ZV]
 try simp only [Va,eY]
 all_goals rfl
theorem QiV {R1 l} [H1 : EncL JE R1 l] : CP T (n + 10) 190 [.imm 3 R1] = (QaS l).map fun r=>.own 3 (r.map JE):=by
 obtain ⟨rfl⟩:=H1
 rw [Qg]
 simp -dsimp +contextual only [↓evA,eZ,Nat.reduceAdd,Nat.reduceMul,Nat.reduceBEq,Nat.reduceLeDiff,Nat.reduceLT,Tryz.func190,Tryz.f190,QNW,QsF,srt,QhS,ZN]
 try simp only [QaS,eY]
 all_goals first | rfl | (simp +contextual only [evN] <;> rfl)
theorem Qm2 {R1 l} [H1 : EncL JE R1 l] : CP T (n + 11) 126 [.imm 3 R1] = (QdB l).map fun r=>.tup [.i .i64 r.1,.i .i64 r.2]:=by
 obtain ⟨rfl⟩:=H1
 rw [Qg]
 simp -dsimp +contextual only [↓evA,eZ,Nat.reduceAdd,Nat.reduceMul,Nat.reduceBEq,Nat.reduceLeDiff,Nat.reduceLT,Tryz.func126,Tryz.f126,QLz,QtE,QmH,QiV]
 try simp only [QdB,eY]
 all_goals rfl
theorem QkO (k) : CP T (n + 1) 206 [.i .i64 k] = (Qdk k).map fun r=>.i .i64 r:=by
 rw [Qg]
 simp -dsimp +contextual only [↓evA,eZ,Nat.reduceAdd,Nat.reduceMul,Nat.reduceBEq,Nat.reduceLeDiff,Nat.reduceLT,Tryz.func206,Tryz.f206,QJq,QsQ]
 try simp only [Qdk,eY]
 all_goals rfl
theorem QmS {R1 f} [H1 : EncR Vf R1 f] : CP T (n + 4) 142 [.agg R1] = (QdU f).map fun r=>.i .i64 r:=by
 obtain ⟨rfl⟩:=H1
 rw [Qg]
 simp -dsimp +contextual only [↓evA,eZ,Nat.reduceAdd,Nat.reduceMul,Nat.reduceBEq,Nat.reduceLeDiff,Nat.reduceLT,Tryz.func142,Tryz.f142,QHa,QsK,QeN,QkO]
 try simp only [QdU,eY]
 all_goals rfl
theorem Qjf (a) {R1 f} [H1 : EncR Vf R1 f] : CP T (n + 5) 70 [.agg R1,.i .i64 a] = (Qdd f a).map fun r=>.b r:=by
 obtain ⟨rfl⟩:=H1
 rw [Qg]
 simp -dsimp +contextual only [↓evA,eZ,Nat.reduceAdd,Nat.reduceMul,Nat.reduceBEq,Nat.reduceLeDiff,Nat.reduceLT,Tryz.func70,Tryz.f70,QRp,QBI,QeN,QmS]
 try simp only [Qdd,eY]
 all_goals rfl
theorem Qk0 {R1 c R2 c2} [H1 : EncR Qs R1 c] [H2 : EncR QcB R2 c2] : CP T (n + 1) 72 [.agg R1,.iptr 5 [R2] 0 0] = (Qdo c c2).map fun r=>.b r:=by
 rcases H1,H2 with ⟨⟨rfl⟩,⟨rfl⟩⟩
 rw [Qg]
 simp -dsimp +contextual only [↓evA,eZ,Nat.reduceAdd,Nat.reduceMul,Nat.reduceBEq,Nat.reduceLeDiff,Nat.reduceLT,Tryz.func72,Tryz.f72,QQH,QCg]
 try simp only [Qdo,eY]
 all_goals rfl
theorem Qav (a a2) {R1 s R2 f} [H1 : EncL Qs R1 s] [H2 : EncR QcB R2 f] : LP T (n + 2) 143 2 (frm [(0,.imm 5 R1),(1,.clo 72 [.iptr 5 [R2] 0 0]),(7,.i .i64 a),(8,.i .i64 a2)]) [] =
  JF (run (QF s f a) a2) (fun (zr : Int)=>(XE.ret,frm [(4,.i .i64 zr)],[])) (fun (zr : Unit)=>(XE.exit 0,frm [],[])):=by
 rcases H1,H2 with ⟨⟨rfl⟩,⟨rfl⟩⟩
 rw [QH]
 simp -dsimp only [↓evA,evB,Qr,Tryz.func143,Tryz.f143,Qkt,Qgm,TP,TZ,Nat.reduceAdd,Nat.reduceMul,Nat.reduceBEq,Nat.reduceLeDiff,Nat.reduceLT]
 apply Qu a2
 intro a2
 simp -dsimp +contextual only [↓evA,eZ,Nat.reduceAdd,Nat.reduceMul,Nat.reduceBEq,Nat.reduceLeDiff,Nat.reduceLT,Qk0]
 try simp only [QF,eY]
 all_goals rfl
end Go.Proofs.YtonidbheohhgdaaGreat
