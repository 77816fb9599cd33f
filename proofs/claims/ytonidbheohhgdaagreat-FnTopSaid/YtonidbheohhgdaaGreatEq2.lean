import Derived.Test.YtonidbheohhgdaaGreatEq1
namespace Go.Proofs.YtonidbheohhgdaaGreat
open Go Go.Proofs Go.Proofs.YtonidbheohhgdaaGreat.Am
set_option maxHeartbeats 4000000
set_option linter.unusedVariables false
set_option linter.unusedSimpArgs false
set_option linter.defProp false
set_option maxRecDepth 100000
variable (n : Nat)
theorem Qnh {R1 c} [H1 : EncR Xo R1 c] : CA T (n + 8) 93 [some (Ent.box R1)] [.ptr 0 0 0] = (Qdr c).map fun r=>(.agg [.i .i64 r.2.Kind,.i .i64 r.2.Find.Thing.Id,.i .i64 r.2.Find.Thing.Kind,.i .i64 r.2.Find.Thing.Colour,.i .i64 r.2.Find.Thing.Size,.i .i64 r.2.Find.Thing.Worth,.i .i64 r.2.Find.Place,.i .i64 r.2.Find.At,.i .i64 r.2.Find.Finder,.sl 1,.i .i64 r.2.Id,.i .i64 r.2.Who,.i .i64 r.2.N,.sl 2],[some (Ent.box (Xo r.1)),some (Ent.lst 2 (r.2.Marks.map XW)),some (Ent.lst 3 (r.2.Bids.map JE))]):=by
 obtain ⟨rfl⟩:=H1
 rw [Qef]
 simp -dsimp +contextual (maxSteps:=100000000) only [↓evA,eZ,Nat.reduceAdd,Nat.reduceMul,Nat.reduceBEq,Nat.reduceLeDiff,Nat.reduceLT,Tryz.func93,Tryz.f93,QP4,QzP,srt,QdD,Xn,Qgk,Qm4]
 try simp only [Qdr,eY]
 all_goals rfl
theorem Qih (i) {R1 c R2 l} [H1 : EncR Xo R1 c] [H2 : EncL Qer R2 l] : LP T (n + 9) 32 3 (frm [(0,.ptr 0 0 0),(5,.sl 1),(6,.i .i64 i)]) [some (Ent.box R1),some (Ent.lst 14 R2)] =
  (run Zx (c,l,i)).map (fun (zr : l1Cur × (List Event))=>(XE.exit 0,frm [(0,.ptr 0 0 0),(5,.sl 1)],[some (Ent.box (Xo zr.1)),some (Ent.lst 14 (zr.2.map Qer))])):=by
 rcases H1,H2 with ⟨⟨rfl⟩,⟨rfl⟩⟩
 rw [QH]
 simp -dsimp only [↓evA,evB,Qr,Tryz.func32,Tryz.f32,QHf,Qxz,TP,TZ,Nat.reduceAdd,Nat.reduceMul,Nat.reduceBEq,Nat.reduceLeDiff,Nat.reduceLT]
 apply Qd9 c l i
 intro c l i
 simp -dsimp +contextual only [↓evA,eZ,Nat.reduceAdd,Nat.reduceMul,Nat.reduceBEq,Nat.reduceLeDiff,Nat.reduceLT,srt,Qnh]
 try simp only [Zx,eY]
 all_goals rfl
theorem Qmt (m) {R1 c} [H1 : EncR Xo R1 c] : CA T (n + 10) 32 [some (Ent.box R1)] [.ptr 0 0 0,.i .i64 m] = (Qcz c m).map fun r=>(.sl 1,[some (Ent.box (Xo r.1)),some (Ent.lst 14 (r.2.map Qer))]):=by
 obtain ⟨rfl⟩:=H1
 rw [Qef]
 simp -dsimp +contextual (maxSteps:=100000000) only [↓evA,eZ,Nat.reduceAdd,Nat.reduceMul,Nat.reduceBEq,Nat.reduceLeDiff,Nat.reduceLT,Tryz.func32,Tryz.f32,QHf,Qxz,srt,Qgk,Xn,Qih]
 try simp only [Qcz,eY]
 all_goals rfl
theorem QgC {R1 c} [H1 : EncL QdV R1 c] : CP T (n + 14) 6 [.imm 1 R1] = (Zn c).map fun r=>.tup [.agg (JH r.1),.own 14 (r.2.map Qer)]:=by
 obtain ⟨rfl⟩:=H1
 rw [Qg]
 simp -dsimp +contextual (maxSteps:=100000000) only [↓evA,eZ,Nat.reduceAdd,Nat.reduceMul,Nat.reduceBEq,Nat.reduceLeDiff,Nat.reduceLT,Tryz.func6,Tryz.f6,Aa6,An6,srt,QoW,QkR,Qmt]
 try simp only [Zn,eY]
 try simp only [List.contains_nil,Bool.not_false,Bool.and_true,Qbo,List.length_append,List.length_cons,List.length_nil,Nat.zero_add,Qc9,Qdz]
 all_goals first | rfl | (simp +contextual only [evN] <;> rfl)
theorem Q0 (a l a2) : CP T (n + 1) 33 [.i .i64 a,.i .i64 l,.i .i64 a2] = (Qb a l a2).map fun r=>.b r:=by
 rw [Qg]
 simp -dsimp +contextual only [↓evA,eZ,Nat.reduceAdd,Nat.reduceMul,Nat.reduceBEq,Nat.reduceLeDiff,Nat.reduceLT,Tryz.func33,Tryz.f33,QPu,Qz5]
 try simp only [Qb,eY]
 all_goals rfl
theorem Qel {R1 a} [H1 : EncR QcB R1 a] : CP T (n + 2) 170 [.agg R1] = (ZG a).map fun r=>.b r:=by
 obtain ⟨rfl⟩:=H1
 rw [Qg]
 simp -dsimp +contextual only [↓evA,eZ,Nat.reduceAdd,Nat.reduceMul,Nat.reduceBEq,Nat.reduceLeDiff,Nat.reduceLT,Tryz.func170,Tryz.f170,QMK,QtY,Q0]
 try simp only [ZG,eY]
 all_goals rfl
theorem QeN {R1 f} [H1 : EncR Vf R1 f] : CP T (n + 3) 94 [.agg R1] = (Qar f).map fun r=>.b r:=by
 obtain ⟨rfl⟩:=H1
 rw [Qg]
 simp -dsimp +contextual only [↓evA,eZ,Nat.reduceAdd,Nat.reduceMul,Nat.reduceBEq,Nat.reduceLeDiff,Nat.reduceLT,Tryz.func94,Tryz.f94,QPc,Qzt,Qel,Q0]
 try simp only [Qar,eY]
 all_goals rfl
theorem QhH (a2 a3) {R1 l R2 a} [H1 : EncL Vf R1 l] [H2 : EncL Vf R2 a] : LP T (n + 4) 34 4 (frm [(0,.imm 8 R1),(8,.imm 8 R2),(9,.i .i64 a2),(10,.i .i64 a3)]) [] =
  JF (run (Zh l a a2) a3) (fun (zr : Bool)=>(XE.ret,frm [(2,.b zr)],[])) (fun (zr : Unit)=>(XE.exit 0,frm [],[])):=by
 rcases H1,H2 with ⟨⟨rfl⟩,⟨rfl⟩⟩
 rw [QH]
 simp -dsimp only [↓evA,evB,Qr,Tryz.func34,Tryz.f34,QLZ,QwP,TP,TZ,Nat.reduceAdd,Nat.reduceMul,Nat.reduceBEq,Nat.reduceLeDiff,Nat.reduceLT]
 apply Qu a3
 intro a3
 simp -dsimp +contextual only [↓evA,eZ,Nat.reduceAdd,Nat.reduceMul,Nat.reduceBEq,Nat.reduceLeDiff,Nat.reduceLT,QeN]
 try simp only [Zh,eY]
 all_goals rfl
theorem QfM {R1 l} [H1 : EncL Vf R1 l] : CP T (n + 5) 34 [.imm 8 R1] = (ZO l).map fun r=>.b r:=by
 obtain ⟨rfl⟩:=H1
 rw [Qg]
 simp -dsimp +contextual only [↓evA,eZ,Nat.reduceAdd,Nat.reduceMul,Nat.reduceBEq,Nat.reduceLeDiff,Nat.reduceLT,Tryz.func34,Tryz.f34,QLZ,QwP,QhH]
 try simp only [ZO,eY]
 all_goals rfl
theorem QhZ (a2 a3) {R1 l R2 a} [H1 : EncL XW R1 l] [H2 : EncL XW R2 a] : LP T (n + 2) 95 4 (frm [(0,.imm 2 R1),(8,.imm 2 R2),(9,.i .i64 a2),(10,.i .i64 a3)]) [] =
  JF (run (Zc l a a2) a3) (fun (zr : Bool)=>(XE.ret,frm [(2,.b zr)],[])) (fun (zr : Unit)=>(XE.exit 0,frm [],[])):=by
 rcases H1,H2 with ⟨⟨rfl⟩,⟨rfl⟩⟩
 rw [QH]
 simp -dsimp only [↓evA,evB,Qr,Tryz.func95,Tryz.f95,QHD,QyH,TP,TZ,Nat.reduceAdd,Nat.reduceMul,Nat.reduceBEq,Nat.reduceLeDiff,Nat.reduceLT]
 apply Qu a3
 intro a3
 simp -dsimp +contextual only [↓evA,eZ,Nat.reduceAdd,Nat.reduceMul,Nat.reduceBEq,Nat.reduceLeDiff,Nat.reduceLT,Q0]
 try simp only [Zc,eY]
 all_goals rfl
theorem QdJ {R1 l} [H1 : EncL XW R1 l] : CP T (n + 3) 95 [.imm 2 R1] = (J3 l).map fun r=>.b r:=by
 obtain ⟨rfl⟩:=H1
 rw [Qg]
 simp -dsimp +contextual only [↓evA,eZ,Nat.reduceAdd,Nat.reduceMul,Nat.reduceBEq,Nat.reduceLeDiff,Nat.reduceLT,Tryz.func95,Tryz.f95,QHD,QyH,QhZ]
 try simp only [J3,eY]
 all_goals rfl
theorem Qgj (a2 a3) {R1 l R2 a} [H1 : EncL VX R1 l] [H2 : EncL VX R2 a] : LP T (n + 4) 35 4 (frm [(0,.imm 3 R1),(8,.imm 3 R2),(9,.i .i64 a2),(10,.i .i64 a3)]) [] =
  JF (run (Ji l a a2) a3) (fun (zr : Bool)=>(XE.ret,frm [(2,.b zr)],[])) (fun (zr : Unit)=>(XE.exit 0,frm [],[])):=by
 rcases H1,H2 with ⟨⟨rfl⟩,⟨rfl⟩⟩
 rw [QH]
 simp -dsimp only [↓evA,evB,Qr,Tryz.func35,Tryz.f35,QM1,Qx6,TP,TZ,Nat.reduceAdd,Nat.reduceMul,Nat.reduceBEq,Nat.reduceLeDiff,Nat.reduceLT]
 apply Qu a3
 intro a3
 simp -dsimp +contextual only [↓evA,eZ,Nat.reduceAdd,Nat.reduceMul,Nat.reduceBEq,Nat.reduceLeDiff,Nat.reduceLT,Q0,QdJ]
 try simp only [Ji,eY]
 all_goals rfl
theorem QeF {R1 l} [H1 : EncL VX R1 l] : CP T (n + 5) 35 [.imm 3 R1] = (JV l).map fun r=>.b r:=by
 obtain ⟨rfl⟩:=H1
 rw [Qg]
 simp -dsimp +contextual only [↓evA,eZ,Nat.reduceAdd,Nat.reduceMul,Nat.reduceBEq,Nat.reduceLeDiff,Nat.reduceLT,Tryz.func35,Tryz.f35,QM1,Qx6,Qgj]
 try simp only [JV,eY]
 all_goals rfl
theorem QiY (c) {R1 a} [H1 : EncR VT R1 a] : CP T (n + 1) 139 [.agg R1,.iptr 1 [[.i .i64 c]] 0 0] = (Qcn a c).map fun r=>.b r:=by
 obtain ⟨rfl⟩:=H1
 rw [Qg]
 simp -dsimp +contextual only [↓evA,eZ,Nat.reduceAdd,Nat.reduceMul,Nat.reduceBEq,Nat.reduceLeDiff,Nat.reduceLT,Tryz.func139,Tryz.f139,QK0,Que]
 try simp only [Qcn,eY]
 all_goals rfl
theorem Qan (f a a2) {R1 s} [H1 : EncL VT R1 s] : LP T (n + 2) 138 2 (frm [(0,.imm 3 R1),(1,.clo 139 [.iptr 1 [[.i .i64 f]] 0 0]),(7,.i .i64 a),(8,.i .i64 a2)]) [] =
  JF (run (QC s f a) a2) (fun (zr : Int)=>(XE.ret,frm [(4,.i .i64 zr)],[])) (fun (zr : Unit)=>(XE.exit 0,frm [],[])):=by
 obtain ⟨rfl⟩:=H1
 rw [QH]
 simp -dsimp only [↓evA,evB,Qr,Tryz.func138,Tryz.f138,QDg,Qqg,TP,TZ,Nat.reduceAdd,Nat.reduceMul,Nat.reduceBEq,Nat.reduceLeDiff,Nat.reduceLT]
 apply Qu a2
 intro a2
 simp -dsimp +contextual only [↓evA,eZ,Nat.reduceAdd,Nat.reduceMul,Nat.reduceBEq,Nat.reduceLeDiff,Nat.reduceLT,QiY]
 try simp only [QC,eY]
 all_goals rfl
theorem Qbc (c) {R1 s} [H1 : EncL VT R1 s] : CP T (n + 3) 138 [.imm 3 R1,.clo 139 [.iptr 1 [[.i .i64 c]] 0 0]] = (Vy s c).map fun r=>.i .i64 r:=by
 obtain ⟨rfl⟩:=H1
 rw [Qg]
 simp -dsimp +contextual only [↓evA,eZ,Nat.reduceAdd,Nat.reduceMul,Nat.reduceBEq,Nat.reduceLeDiff,Nat.reduceLT,Tryz.func138,Tryz.f138,QDg,Qqg,Qan]
 try simp only [Vy,eY]
 all_goals rfl
theorem Je (a) {R1 l} [H1 : EncL VT R1 l] : CP T (n + 4) 64 [.imm 3 R1,.i .i64 a] = (V2 l a).map fun r=>.i .i64 r:=by
 obtain ⟨rfl⟩:=H1
 rw [Qg]
 simp -dsimp +contextual only [↓evA,eZ,Nat.reduceAdd,Nat.reduceMul,Nat.reduceBEq,Nat.reduceLeDiff,Nat.reduceLT,Tryz.func64,Tryz.f64,QQA,QB9,Qbc]
 try simp only [V2,eY]
 all_goals rfl
theorem Qm3 (a) {R1 l} [H1 : EncL VT R1 l] : CP T (n + 5) 96 [.imm 3 R1,.i .i64 a] = (Qcx l a).map fun r=>.i .i64 r:=by
 obtain ⟨rfl⟩:=H1
 rw [Qg]
 simp -dsimp +contextual only [↓evA,eZ,Nat.reduceAdd,Nat.reduceMul,Nat.reduceBEq,Nat.reduceLeDiff,Nat.reduceLT,Tryz.func96,Tryz.f96,QSM,QAY,Je]
 try simp only [Qcx,eY]
 all_goals rfl
theorem Qh7 (a2 a3) {R1 l R2 a} [H1 : EncL VT R1 l] [H2 : EncL VT R2 a] : LP T (n + 6) 36 4 (frm [(0,.imm 3 R1),(8,.imm 3 R2),(9,.i .i64 a2),(10,.i .i64 a3)]) [] =
  JF (run (Zj l a a2) a3) (fun (zr : Bool)=>(XE.ret,frm [(2,.b zr)],[])) (fun (zr : Unit)=>(XE.exit 0,frm [],[])):=by
 rcases H1,H2 with ⟨⟨rfl⟩,⟨rfl⟩⟩
 rw [QH]
 simp -dsimp only [↓evA,evB,Qr,Tryz.func36,Tryz.f36,QJU,Qww,TP,TZ,Nat.reduceAdd,Nat.reduceMul,Nat.reduceBEq,Nat.reduceLeDiff,Nat.reduceLT]
 apply Qu a3
 intro a3
 simp -dsimp +contextual only [↓evA,eZ,Nat.reduceAdd,Nat.reduceMul,Nat.reduceBEq,Nat.reduceLeDiff,Nat.reduceLT,Q0,Qm3]
 try simp only [Zj,eY]
 all_goals rfl
theorem QdE {R1 l} [H1 : EncL VT R1 l] : CP T (n + 7) 36 [.imm 3 R1] = (Zb l).map fun r=>.b r:=by
 obtain ⟨rfl⟩:=H1
 rw [Qg]
 simp -dsimp +contextual only [↓evA,eZ,Nat.reduceAdd,Nat.reduceMul,Nat.reduceBEq,Nat.reduceLeDiff,Nat.reduceLT,Tryz.func36,Tryz.f36,QJU,Qww,Qh7]
 try simp only [Zb,eY]
 all_goals rfl
theorem Qhe (a3 a4 a6 a7) {R1 l R2 a R3 a2 R4 a5} [H1 : EncL Qs R1 l] [H2 : EncR Qs R2 a] [H3 : EncL Qs R3 a2] [H4 : EncL Qs R4 a5] : LP T (n + 1) 37 9 (frm [(0,.imm 5 R1),(4,.ptr 0 0 0),(10,.imm 5 R3),(11,.i .i64 a3),(12,.i .i64 a4),(62,.imm 5 R4),(63,.i .i64 a6),(64,.i .i64 a7)]) [some (Ent.box R2)] =
  JF (run (XY l a a2 a3 a4 a5 a6) a7) (fun (zr : Bool)=>(XE.ret,frm [(2,.b zr)],[])) (fun (zr : Unit)=>(XE.exit 2,frm [(0,.imm 5 (l.map Qs)),(10,.imm 5 (a2.map Qs)),(11,.i .i64 a3),(12,.i .i64 a4)],[])):=by
 rcases H1,H2,H3,H4 with ⟨⟨rfl⟩,⟨rfl⟩,⟨rfl⟩,⟨rfl⟩⟩
 rw [QH]
 simp -dsimp only [↓evA,evB,Qr,Tryz.func37,Tryz.f37,QFy,Qva,TP,TZ,Nat.reduceAdd,Nat.reduceMul,Nat.reduceBEq,Nat.reduceLeDiff,Nat.reduceLT]
 apply Qu a7
 intro a7
 simp -dsimp +contextual only [↓evA,eZ,Nat.reduceAdd,Nat.reduceMul,Nat.reduceBEq,Nat.reduceLeDiff,Nat.reduceLT]
 try simp only [XY,eY]
 all_goals rfl
theorem Qhl (a2 a3) {R1 l R2 a} [H1 : EncL Qs R1 l] [H2 : EncL Qs R2 a] : LP T (n + 2) 37 4 (frm [(0,.imm 5 R1),(10,.imm 5 R2),(11,.i .i64 a2),(12,.i .i64 a3)]) [] =
  JF (run (JJ l a a2) a3) (fun (zr : Bool)=>(XE.ret,frm [(2,.b zr)],[])) (fun (zr : Unit)=>(XE.exit 0,frm [],[])):=by
 rcases H1,H2 with ⟨⟨rfl⟩,⟨rfl⟩⟩
 rw [QH]
 simp -dsimp only [↓evA,evB,Qr,Tryz.func37,Tryz.f37,QFy,Qva,TP,TZ,Nat.reduceAdd,Nat.reduceMul,Nat.reduceBEq,Nat.reduceLeDiff,Nat.reduceLT]
 apply Qu a3
 intro a3
 simp -dsimp +contextual only [↓evA,eZ,Nat.reduceAdd,Nat.reduceMul,Nat.reduceBEq,Nat.reduceLeDiff,Nat.reduceLT,Q0,Qhe]
 try simp only [JJ,eY]
 all_goals rfl
theorem Qdf {R1 l} [H1 : EncL Qs R1 l] : CP T (n + 3) 37 [.imm 5 R1] = (Xm l).map fun r=>.b r:=by
 obtain ⟨rfl⟩:=H1
 rw [Qg]
 simp -dsimp +contextual only [↓evA,eZ,Nat.reduceAdd,Nat.reduceMul,Nat.reduceBEq,Nat.reduceLeDiff,Nat.reduceLT,Tryz.func37,Tryz.f37,QFy,Qva,Qhl]
 try simp only [Xm,eY]
 all_goals rfl
theorem Qsj (p q) : CP T (n + 2) 270 [.i .i64 p,.i .i64 q] = (QcM p q).map fun r=>.i .i64 r:=by
 rw [Qg]
 simp -dsimp +contextual only [↓evA,eZ,Nat.reduceAdd,Nat.reduceMul,Nat.reduceBEq,Nat.reduceLeDiff,Nat.reduceLT,Tryz.func270,Tryz.f270,QHw,Qt8,Q0]
 try simp only [QcM,eY]
 all_goals rfl
theorem Qpn (a v) : CP T (n + 3) 227 [.i .i64 a,.i .i64 v] = (Qg7 a v).map fun r=>.i .i64 r:=by
 rw [Qg]
 simp -dsimp +contextual only [↓evA,eZ,Nat.reduceAdd,Nat.reduceMul,Nat.reduceBEq,Nat.reduceLeDiff,Nat.reduceLT,Tryz.func227,Tryz.f227,QOh,Qtk,Qsj]
 try simp only [Qg7,eY]
 all_goals rfl
theorem Qln (a a3 a4) {R1 a2} [H1 : EncL Q2 R1 a2] : LP T (n + 4) 171 3 (frm [(3,.i .i64 a),(6,.imm 1 R1),(7,.i .i64 a3),(8,.i .i64 a4)]) [] =
  (run (QcC a2 a3) (a,a4)).map (fun (zr : Int)=>(XE.exit 0,frm [(3,.i .i64 zr)],[])):=by
 obtain ⟨rfl⟩:=H1
 rw [QH]
 simp -dsimp only [↓evA,evB,Qr,Tryz.func171,Tryz.f171,QCT,QpN,TP,TZ,Nat.reduceAdd,Nat.reduceMul,Nat.reduceBEq,Nat.reduceLeDiff,Nat.reduceLT]
 apply VP a a4
 intro a a4
 simp -dsimp +contextual only [↓evA,eZ,Nat.reduceAdd,Nat.reduceMul,Nat.reduceBEq,Nat.reduceLeDiff,Nat.reduceLT,Qpn]
 try simp only [QcC,eY]
 all_goals rfl
theorem Qkl {R1 v} [H1 : EncL Q2 R1 v] : CP T (n + 5) 171 [.imm 1 R1] = (Qc7 v).map fun r=>.i .i64 r:=by
 obtain ⟨rfl⟩:=H1
 rw [Qg]
 simp -dsimp +contextual only [↓evA,eZ,Nat.reduceAdd,Nat.reduceMul,Nat.reduceBEq,Nat.reduceLeDiff,Nat.reduceLT,Tryz.func171,Tryz.f171,QCT,QpN,Qln]
 try simp only [Qc7,eY]
 all_goals rfl
theorem QfQ (b) {R1 a} [H1 : EncR VS R1 a] : CP T (n + 6) 97 [.i .i64 b,.agg R1] = (Jn b a).map fun r=>.i .i64 r:=by
 obtain ⟨rfl⟩:=H1
 rw [Qg]
 simp -dsimp +contextual only [↓evA,eZ,Nat.reduceAdd,Nat.reduceMul,Nat.reduceBEq,Nat.reduceLeDiff,Nat.reduceLT,Tryz.func97,Tryz.f97,QTk,QCj,Qkl]
 try simp only [Jn,eY]
 all_goals rfl
theorem QhP (a i) {R1 l} [H1 : EncL VS R1 l] : LP T (n + 1) 65 2 (frm [(0,.imm 5 R1),(1,.i .i64 a),(5,.i .i64 i)]) [] =
  JF (run (Qal l a) i) (fun (zr : Int)=>(XE.ret,frm [(4,.i .i64 zr)],[])) (fun (zr : Unit)=>(XE.exit 0,frm [],[])):=by
 obtain ⟨rfl⟩:=H1
 rw [QH]
 simp -dsimp only [↓evA,evB,Qr,Tryz.func65,Tryz.f65,QLm,QwX,TP,TZ,Nat.reduceAdd,Nat.reduceMul,Nat.reduceBEq,Nat.reduceLeDiff,Nat.reduceLT]
 apply Qu i
 intro i
 simp -dsimp +contextual only [↓evA,eZ,Nat.reduceAdd,Nat.reduceMul,Nat.reduceBEq,Nat.reduceLeDiff,Nat.reduceLT]
 try simp only [Qal,eY]
 all_goals rfl
theorem QdG (a) {R1 l} [H1 : EncL VS R1 l] : CP T (n + 2) 65 [.imm 5 R1,.i .i64 a] = (J8 l a).map fun r=>.i .i64 r:=by
 obtain ⟨rfl⟩:=H1
 rw [Qg]
 simp -dsimp +contextual only [↓evA,eZ,Nat.reduceAdd,Nat.reduceMul,Nat.reduceBEq,Nat.reduceLeDiff,Nat.reduceLT,Tryz.func65,Tryz.f65,QLm,QwX,QhP]
 try simp only [J8,eY]
 all_goals rfl
theorem QiL (b a2 a3) {R1 l R2 a} [H1 : EncL VS R1 l] [H2 : EncL VS R2 a] : LP T (n + 7) 38 5 (frm [(0,.imm 5 R1),(3,.i .i64 b),(10,.imm 5 R2),(11,.i .i64 a2),(12,.i .i64 a3)]) [] =
  JF (run (JR l a a2) (b,a3)) (fun (zr : Bool)=>(XE.ret,frm [(2,.b zr)],[])) (fun (zr : Unit)=>(XE.exit 0,frm [],[])):=by
 rcases H1,H2 with ⟨⟨rfl⟩,⟨rfl⟩⟩
 rw [QH]
 simp -dsimp only [↓evA,evB,Qr,Tryz.func38,Tryz.f38,QJO,Qwe,TP,TZ,Nat.reduceAdd,Nat.reduceMul,Nat.reduceBEq,Nat.reduceLeDiff,Nat.reduceLT]
 apply VP b a3
 intro b a3
 simp -dsimp +contextual only [↓evA,eZ,Nat.reduceAdd,Nat.reduceMul,Nat.reduceBEq,Nat.reduceLeDiff,Nat.reduceLT,Q0,QfQ,QdG]
 try simp only [JR,eY]
 all_goals rfl
theorem Qd4 {R1 l} [H1 : EncL VS R1 l] : CP T (n + 8) 38 [.imm 5 R1] = (VQ l).map fun r=>.b r:=by
 obtain ⟨rfl⟩:=H1
 rw [Qg]
 simp -dsimp +contextual only [↓evA,eZ,Nat.reduceAdd,Nat.reduceMul,Nat.reduceBEq,Nat.reduceLeDiff,Nat.reduceLT,Tryz.func38,Tryz.f38,QJO,Qwe,QiL]
 try simp only [VQ,eY]
 all_goals rfl
theorem QgH (a2 a3) {R1 l R2 a} [H1 : EncL VN R1 l] [H2 : EncL VN R2 a] : LP T (n + 2) 39 4 (frm [(0,.imm 4 R1),(8,.imm 4 R2),(9,.i .i64 a2),(10,.i .i64 a3)]) [] =
  JF (run (Jj l a a2) a3) (fun (zr : Bool)=>(XE.ret,frm [(2,.b zr)],[])) (fun (zr : Unit)=>(XE.exit 0,frm [],[])):=by
 rcases H1,H2 with ⟨⟨rfl⟩,⟨rfl⟩⟩
 rw [QH]
 simp -dsimp only [↓evA,evB,Qr,Tryz.func39,Tryz.f39,QNz,Qyx,TP,TZ,Nat.reduceAdd,Nat.reduceMul,Nat.reduceBEq,Nat.reduceLeDiff,Nat.reduceLT]
 apply Qu a3
 intro a3
 simp -dsimp +contextual only [↓evA,eZ,Nat.reduceAdd,Nat.reduceMul,Nat.reduceBEq,Nat.reduceLeDiff,Nat.reduceLT,Q0]
 try simp only [Jj,eY]
 all_goals rfl
theorem Qbl {R1 l} [H1 : EncL VN R1 l] : CP T (n + 3) 39 [.imm 4 R1] = (Xt l).map fun r=>.b r:=by
 obtain ⟨rfl⟩:=H1
 rw [Qg]
 simp -dsimp +contextual only [↓evA,eZ,Nat.reduceAdd,Nat.reduceMul,Nat.reduceBEq,Nat.reduceLeDiff,Nat.reduceLT,Tryz.func39,Tryz.f39,QNz,Qyx,QgH]
 try simp only [Xt,eY]
 all_goals rfl
theorem QiG (a a3 a4) {R1 l R2 o R3 a2} [H1 : EncL VS R1 l] [H2 : EncL Q2 R2 o] [H3 : EncL VS R3 a2] : LP T (n + 3) 13 5 (frm [(0,.imm 5 R1),(1,.i .i64 a),(5,.sl 0),(13,.imm 5 R3),(14,.i .i64 a3),(15,.i .i64 a4)]) [some (Ent.lst 1 R2)] =
  (run (Xd l a a2 a3) (o,a4)).map (fun (zr : (List Int))=>(XE.exit 0,frm [(5,.sl 0)],[some (Ent.lst 1 (zr.map Q2))])):=by
 rcases H1,H2,H3 with ⟨⟨rfl⟩,⟨rfl⟩,⟨rfl⟩⟩
 rw [QH]
 simp -dsimp only [↓evA,evB,Qr,Tryz.func13,Tryz.f13,QHZ,Qxs,TP,TZ,Nat.reduceAdd,Nat.reduceMul,Nat.reduceBEq,Nat.reduceLeDiff,Nat.reduceLT]
 apply VP o a4
 intro o a4
 simp -dsimp +contextual only [↓evA,eZ,Nat.reduceAdd,Nat.reduceMul,Nat.reduceBEq,Nat.reduceLeDiff,Nat.reduceLT,srt,QdG]
 try simp only [Xd,eY]
 all_goals rfl
theorem Qei (a) {R1 l} [H1 : EncL VS R1 l] : CP T (n + 9) 13 [.imm 5 R1,.i .i64 a] = (X3 l a).map fun r=>.own 1 (r.map Q2):=by
 obtain ⟨rfl⟩:=H1
 rw [Qg]
 simp -dsimp +contextual only [↓evA,eZ,Nat.reduceAdd,Nat.reduceMul,Nat.reduceBEq,Nat.reduceLeDiff,Nat.reduceLT,Tryz.func13,Tryz.f13,QHZ,Qxs,srt,Qd4,QiG]
 try simp only [X3,eY]
 all_goals first | rfl | (simp +contextual only [evN] <;> rfl)
theorem QfX (v a a2) {R1 s} [H1 : EncL Q2 R1 s] : LP T (n + 1) 172 2 (frm [(0,.imm 1 R1),(1,.i .i64 v),(7,.i .i64 a),(8,.i .i64 a2)]) [] =
  JF (run (X5 s v a) a2) (fun (zr : Int)=>(XE.ret,frm [(4,.i .i64 zr)],[])) (fun (zr : Unit)=>(XE.exit 0,frm [],[])):=by
 obtain ⟨rfl⟩:=H1
 rw [QH]
 simp -dsimp only [↓evA,evB,Qr,Tryz.func172,Tryz.f172,QCD,QpY,TP,TZ,Nat.reduceAdd,Nat.reduceMul,Nat.reduceBEq,Nat.reduceLeDiff,Nat.reduceLT]
 apply Qu a2
 intro a2
 simp -dsimp +contextual only [↓evA,eZ,Nat.reduceAdd,Nat.reduceMul,Nat.reduceBEq,Nat.reduceLeDiff,Nat.reduceLT]
 try simp only [X5,eY]
 all_goals rfl
theorem QhD (v) {R1 s} [H1 : EncL Q2 R1 s] : CP T (n + 2) 172 [.imm 1 R1,.i .i64 v] = (QbE s v).map fun r=>.i .i64 r:=by
 obtain ⟨rfl⟩:=H1
 rw [Qg]
 simp -dsimp +contextual only [↓evA,eZ,Nat.reduceAdd,Nat.reduceMul,Nat.reduceBEq,Nat.reduceLeDiff,Nat.reduceLT,Tryz.func172,Tryz.f172,QCD,QpY,QfX]
 try simp only [QbE,eY]
 all_goals rfl
theorem Qc4 (v) {R1 s} [H1 : EncL Q2 R1 s] : CP T (n + 3) 98 [.imm 1 R1,.i .i64 v] = (X6 s v).map fun r=>.b r:=by
 obtain ⟨rfl⟩:=H1
 rw [Qg]
 simp -dsimp +contextual only [↓evA,eZ,Nat.reduceAdd,Nat.reduceMul,Nat.reduceBEq,Nat.reduceLeDiff,Nat.reduceLT,Tryz.func98,Tryz.f98,QSW,Qz8,QhD]
 try simp only [X6,eY]
 all_goals rfl
theorem QhO (c) {R1 f} [H1 : EncR Vf R1 f] : CP T (n + 1) 68 [.agg R1,.iptr 1 [[.i .i64 c]] 0 0] = (QbF f c).map fun r=>.b r:=by
 obtain ⟨rfl⟩:=H1
 rw [Qg]
 simp -dsimp +contextual only [↓evA,eZ,Nat.reduceAdd,Nat.reduceMul,Nat.reduceBEq,Nat.reduceLeDiff,Nat.reduceLT,Tryz.func68,Tryz.f68,QS9,QzI]
 try simp only [QbF,eY]
 all_goals rfl
theorem Qaf (f a a2) {R1 s} [H1 : EncL Vf R1 s] : LP T (n + 2) 67 2 (frm [(0,.imm 8 R1),(1,.clo 68 [.iptr 1 [[.i .i64 f]] 0 0]),(7,.i .i64 a),(8,.i .i64 a2)]) [] =
  JF (run (QA s f a) a2) (fun (zr : Int)=>(XE.ret,frm [(4,.i .i64 zr)],[])) (fun (zr : Unit)=>(XE.exit 0,frm [],[])):=by
 obtain ⟨rfl⟩:=H1
 rw [QH]
 simp -dsimp only [↓evA,evB,Qr,Tryz.func67,Tryz.f67,QLw,Qwv,TP,TZ,Nat.reduceAdd,Nat.reduceMul,Nat.reduceBEq,Nat.reduceLeDiff,Nat.reduceLT]
 apply Qu a2
 intro a2
 simp -dsimp +contextual only [↓evA,eZ,Nat.reduceAdd,Nat.reduceMul,Nat.reduceBEq,Nat.reduceLeDiff,Nat.reduceLT,QhO]
 try simp only [QA,eY]
 all_goals rfl
theorem QaW (c) {R1 s} [H1 : EncL Vf R1 s] : CP T (n + 3) 67 [.imm 8 R1,.clo 68 [.iptr 1 [[.i .i64 c]] 0 0]] = (Vn s c).map fun r=>.i .i64 r:=by
 obtain ⟨rfl⟩:=H1
 rw [Qg]
 simp -dsimp +contextual only [↓evA,eZ,Nat.reduceAdd,Nat.reduceMul,Nat.reduceBEq,Nat.reduceLeDiff,Nat.reduceLT,Tryz.func67,Tryz.f67,QLw,Qwv,Qaf]
 try simp only [Vn,eY]
 all_goals rfl
theorem XG (i) {R1 l} [H1 : EncL Vf R1 l] : CP T (n + 4) 14 [.imm 8 R1,.i .i64 i] = (VW l i).map fun r=>.i .i64 r:=by
 obtain ⟨rfl⟩:=H1
 rw [Qg]
 simp -dsimp +contextual only [↓evA,eZ,Nat.reduceAdd,Nat.reduceMul,Nat.reduceBEq,Nat.reduceLeDiff,Nat.reduceLT,Tryz.func14,Tryz.f14,QSo,QBd,QaW]
 try simp only [VW,eY]
 all_goals rfl
theorem Qik (a3 a4) {R1 a R2 i R3 a2} [H1 : EncR QM R1 a] [H2 : EncL Q2 R2 i] [H3 : EncL Vf R3 a2] : LP T (n + 5) 40 5 (frm [(1,.ptr 0 0 0),(3,.sl 1),(23,.imm 8 R3),(24,.i .i64 a3),(25,.i .i64 a4)]) [some (Ent.box R1),some (Ent.lst 1 R2)] =
  JF (run (Ja a i a2 a3) a4) (fun (zr : Bool)=>(XE.ret,frm [(2,.b zr)],[])) (fun (zr : Unit)=>(XE.exit 0,frm [(1,.ptr 0 0 0),(3,.sl 1)],[some (Ent.box (QM a)),some (Ent.lst 1 (i.map Q2))])):=by
 rcases H1,H2,H3 with ⟨⟨rfl⟩,⟨rfl⟩,⟨rfl⟩⟩
 rw [QH]
 simp -dsimp only [↓evA,evB,Qr,Tryz.func40,Tryz.f40,QBU,Qsd,TP,TZ,Nat.reduceAdd,Nat.reduceMul,Nat.reduceBEq,Nat.reduceLeDiff,Nat.reduceLT]
 apply Qu a4
 intro a4
 simp -dsimp +contextual (maxSteps:=100000000) only [↓evA,eZ,Nat.reduceAdd,Nat.reduceMul,Nat.reduceBEq,Nat.reduceLeDiff,Nat.reduceLT,Je,Qc4]
 try simp only [Ja,eY]
 all_goals rfl
theorem QhU (a3 a4) {R1 a R2 i R3 a2} [H1 : EncR QM R1 a] [H2 : EncL Q2 R2 i] [H3 : EncL VT R3 a2] : LP T (n + 5) 40 11 (frm [(1,.ptr 0 0 0),(3,.sl 1),(57,.imm 3 R3),(58,.i .i64 a3),(59,.i .i64 a4)]) [some (Ent.box R1),some (Ent.lst 1 R2)] =
  JF (run (Xe a i a2 a3) a4) (fun (zr : Bool)=>(XE.ret,frm [(2,.b zr)],[])) (fun (zr : Unit)=>(XE.exit 2,frm [(1,.ptr 0 0 0),(3,.sl 1)],[some (Ent.box (QM a)),some (Ent.lst 1 (i.map Q2))])):=by
 rcases H1,H2,H3 with ⟨⟨rfl⟩,⟨rfl⟩,⟨rfl⟩⟩
 rw [QH]
 simp -dsimp only [↓evA,evB,Qr,Tryz.func40,Tryz.f40,QBU,Qsd,TP,TZ,Nat.reduceAdd,Nat.reduceMul,Nat.reduceBEq,Nat.reduceLeDiff,Nat.reduceLT]
 apply Qu a4
 intro a4
 simp -dsimp +contextual (maxSteps:=100000000) only [↓evA,eZ,Nat.reduceAdd,Nat.reduceMul,Nat.reduceBEq,Nat.reduceLeDiff,Nat.reduceLT,XG]
 try simp only [Xe,eY]
 all_goals rfl
theorem QhW (a3 a4) {R1 a R2 a2} [H1 : EncR QM R1 a] [H2 : EncL Q2 R2 a2] : LP T (n + 5) 40 17 (frm [(1,.ptr 0 0 0),(75,.sl 1),(76,.i .i64 a3),(77,.i .i64 a4)]) [some (Ent.box R1),some (Ent.lst 1 R2)] =
  JF (run (XJ a a2 a3) a4) (fun (zr : Bool)=>(XE.ret,frm [(2,.b zr)],[])) (fun (zr : Unit)=>(XE.exit 4,frm [],[])):=by
 rcases H1,H2 with ⟨⟨rfl⟩,⟨rfl⟩⟩
 rw [QH]
 simp -dsimp only [↓evA,evB,Qr,Tryz.func40,Tryz.f40,QBU,Qsd,TP,TZ,Nat.reduceAdd,Nat.reduceMul,Nat.reduceBEq,Nat.reduceLeDiff,Nat.reduceLT]
 apply Qu a4
 intro a4
 simp -dsimp +contextual (maxSteps:=100000000) only [↓evA,eZ,Nat.reduceAdd,Nat.reduceMul,Nat.reduceBEq,Nat.reduceLeDiff,Nat.reduceLT,XG]
 try simp only [XJ,eY]
 all_goals rfl
theorem QlI {R1 a} [H1 : EncR QM R1 a] : CP T (n + 10) 40 [.agg R1] = (J0 a).map fun r=>.b r:=by
 obtain ⟨rfl⟩:=H1
 rw [Qg]
 simp -dsimp +contextual (maxSteps:=100000000) only [↓evA,eZ,Nat.reduceAdd,Nat.reduceMul,Nat.reduceBEq,Nat.reduceLeDiff,Nat.reduceLT,Tryz.func40,Tryz.f40,QBU,Qsd,Qei,Qik,QhU,QhW]
 try simp only [J0,eY]
 all_goals rfl
theorem QgD {R1 a} [H1 : EncR VB R1 a] : CP T (n + 2) 99 [.agg R1] = (QbK a).map fun r=>.b r:=by
 obtain ⟨rfl⟩:=H1
 rw [Qg]
 simp -dsimp +contextual only [↓evA,eZ,Nat.reduceAdd,Nat.reduceMul,Nat.reduceBEq,Nat.reduceLeDiff,Nat.reduceLT,Tryz.func99,Tryz.f99,QR0,QAR,Q0]
 try simp only [QbK,eY]
 all_goals rfl
theorem Qh9 (c) {R1 a} [H1 : EncR VX R1 a] : CP T (n + 1) 148 [.agg R1,.iptr 1 [[.i .i64 c]] 0 0] = (QaQ a c).map fun r=>.b r:=by
 obtain ⟨rfl⟩:=H1
 rw [Qg]
 simp -dsimp +contextual only [↓evA,eZ,Nat.reduceAdd,Nat.reduceMul,Nat.reduceBEq,Nat.reduceLeDiff,Nat.reduceLT,Tryz.func148,Tryz.f148,QME,Qtn]
 try simp only [QaQ,eY]
 all_goals rfl
theorem ZT (f a a2) {R1 s} [H1 : EncL VX R1 s] : LP T (n + 2) 147 2 (frm [(0,.imm 3 R1),(1,.clo 148 [.iptr 1 [[.i .i64 f]] 0 0]),(7,.i .i64 a),(8,.i .i64 a2)]) [] =
  JF (run (Qj s f a) a2) (fun (zr : Int)=>(XE.ret,frm [(4,.i .i64 zr)],[])) (fun (zr : Unit)=>(XE.exit 0,frm [],[])):=by
 obtain ⟨rfl⟩:=H1
 rw [QH]
 simp -dsimp only [↓evA,evB,Qr,Tryz.func147,Tryz.f147,QC6,Qpx,TP,TZ,Nat.reduceAdd,Nat.reduceMul,Nat.reduceBEq,Nat.reduceLeDiff,Nat.reduceLT]
 apply Qu a2
 intro a2
 simp -dsimp +contextual only [↓evA,eZ,Nat.reduceAdd,Nat.reduceMul,Nat.reduceBEq,Nat.reduceLeDiff,Nat.reduceLT,Qh9]
 try simp only [Qj,eY]
 all_goals rfl
theorem QaA (c) {R1 s} [H1 : EncL VX R1 s] : CP T (n + 3) 147 [.imm 3 R1,.clo 148 [.iptr 1 [[.i .i64 c]] 0 0]] = (QY s c).map fun r=>.i .i64 r:=by
 obtain ⟨rfl⟩:=H1
 rw [Qg]
 simp -dsimp +contextual only [↓evA,eZ,Nat.reduceAdd,Nat.reduceMul,Nat.reduceBEq,Nat.reduceLeDiff,Nat.reduceLT,Tryz.func147,Tryz.f147,QC6,Qpx,ZT]
 try simp only [QY,eY]
 all_goals rfl
theorem QfJ (a) {R1 l} [H1 : EncL VX R1 l] : CP T (n + 4) 75 [.imm 3 R1,.i .i64 a] = (J6 l a).map fun r=>.i .i64 r:=by
 obtain ⟨rfl⟩:=H1
 rw [Qg]
 simp -dsimp +contextual only [↓evA,eZ,Nat.reduceAdd,Nat.reduceMul,Nat.reduceBEq,Nat.reduceLeDiff,Nat.reduceLT,Tryz.func75,Tryz.f75,QTK,Qzz,QaA]
 try simp only [J6,eY]
 all_goals rfl
theorem Qb1 {R1 s} [H1 : EncL XW R1 s] : CP T (n + 1) 76 [.imm 2 R1] = (Xk s).map fun r=>.own 2 (r.map XW):=by
 obtain ⟨rfl⟩:=H1
 rw [Qg]
 simp -dsimp +contextual only [↓evA,eZ,Nat.reduceAdd,Nat.reduceMul,Nat.reduceBEq,Nat.reduceLeDiff,Nat.reduceLT,Tryz.func76,Tryz.f76,QPX,QB2]
 try simp only [Xk,eY]
 all_goals first | rfl | (simp +contextual only [evN] <;> rfl)
theorem Qee (a) {R1 l} [H1 : EncL VX R1 l] : CP T (n + 5) 19 [.imm 3 R1,.i .i64 a] = (J1 l a).map fun r=>.own 2 (r.map XW):=by
 obtain ⟨rfl⟩:=H1
 rw [Qg]
 simp -dsimp +contextual only [↓evA,eZ,Nat.reduceAdd,Nat.reduceMul,Nat.reduceBEq,Nat.reduceLeDiff,Nat.reduceLT,Tryz.func19,Tryz.f19,QSI,QAn,QfJ,Qb1]
 try simp only [J1,eY]
 all_goals first | rfl | (simp +contextual only [evN] <;> rfl)
theorem Qge {R1 l} [H1 : EncL XW R1 l] : CP T (n + 1) 18 [.imm 2 R1] = (ZL l).map fun r=>.i .i64 r:=by
 obtain ⟨rfl⟩:=H1
 rw [Qg]
 simp -dsimp +contextual only [↓evA,eZ,Nat.reduceAdd,Nat.reduceMul,Nat.reduceBEq,Nat.reduceLeDiff,Nat.reduceLT,Tryz.func18,Tryz.f18,QPU,QA7]
 try simp only [ZL,eY]
 all_goals rfl
theorem QcG {R1 l R2 a} [H1 : EncL XW R1 l] [H2 : EncR VB R2 a] : CP T (n + 4) 100 [.imm 2 R1,.agg R2] = (VU l a).map fun r=>.i .i64 r:=by
 rcases H1,H2 with ⟨⟨rfl⟩,⟨rfl⟩⟩
 rw [Qg]
 simp -dsimp +contextual only [↓evA,eZ,Nat.reduceAdd,Nat.reduceMul,Nat.reduceBEq,Nat.reduceLeDiff,Nat.reduceLT,Tryz.func100,Tryz.f100,QLF,Qs8,QgD,QdJ,Qge]
 try simp only [VU,eY]
 all_goals rfl
theorem QmY (s) : CP T (n + 1) 101 [.i .i64 s] = (Jt s).map fun r=>.i .i64 r:=by
 rw [Qg]
 simp -dsimp +contextual only [↓evA,eZ,Nat.reduceAdd,Nat.reduceMul,Nat.reduceBEq,Nat.reduceLeDiff,Nat.reduceLT,Tryz.func101,Tryz.f101,QNi,Qtg]
 try simp only [Jt,eY]
 all_goals rfl
theorem Qhj (a3 a4) {R1 a R2 a2} [H1 : EncR QM R1 a] [H2 : EncL Qs R2 a2] : LP T (n + 6) 41 4 (frm [(1,.ptr 0 0 0),(14,.imm 5 R2),(15,.i .i64 a3),(16,.i .i64 a4)]) [some (Ent.box R1)] =
  JF (run (QR a a2 a3) a4) (fun (zr : Bool)=>(XE.ret,frm [(2,.b zr)],[])) (fun (zr : Unit)=>(XE.exit 0,frm [],[])):=by
 rcases H1,H2 with ⟨⟨rfl⟩,⟨rfl⟩⟩
 rw [QH]
 simp -dsimp only [↓evA,evB,Qr,Tryz.func41,Tryz.f41,QI1,QxP,TP,TZ,Nat.reduceAdd,Nat.reduceMul,Nat.reduceBEq,Nat.reduceLeDiff,Nat.reduceLT]
 apply Qu a4
 intro a4
 simp -dsimp +contextual (maxSteps:=100000000) only [↓evA,eZ,Nat.reduceAdd,Nat.reduceMul,Nat.reduceBEq,Nat.reduceLeDiff,Nat.reduceLT,XG,QgD,Qee,QcG,QmY]
 try simp only [QR,eY]
 all_goals rfl
theorem Qka {R1 a} [H1 : EncR QM R1 a] : CP T (n + 7) 41 [.agg R1] = (VL a).map fun r=>.b r:=by
 obtain ⟨rfl⟩:=H1
 rw [Qg]
 simp -dsimp +contextual (maxSteps:=100000000) only [↓evA,eZ,Nat.reduceAdd,Nat.reduceMul,Nat.reduceBEq,Nat.reduceLeDiff,Nat.reduceLT,Tryz.func41,Tryz.f41,QI1,QxP,Qhj]
 try simp only [VL,eY]
 all_goals rfl
theorem Qkf (a2 a4 a5) {R1 a R2 a3} [H1 : EncR QM R1 a] [H2 : EncL Vf R2 a3] : LP T (n + 1) 42 3 (frm [(1,.ptr 0 0 0),(3,.i .i64 a2),(13,.imm 8 R2),(14,.i .i64 a4),(15,.i .i64 a5)]) [some (Ent.box R1)] =
  (run (Qae a a3 a4) (a2,a5)).map (fun (zr : Int)=>(XE.exit 0,frm [(1,.ptr 0 0 0),(3,.i .i64 zr)],[some (Ent.box (QM a))])):=by
 rcases H1,H2 with ⟨⟨rfl⟩,⟨rfl⟩⟩
 rw [QH]
 simp -dsimp only [↓evA,evB,Qr,Tryz.func42,Tryz.f42,Qxe,Qp3,TP,TZ,Nat.reduceAdd,Nat.reduceMul,Nat.reduceBEq,Nat.reduceLeDiff,Nat.reduceLT]
 apply VP a2 a5
 intro a2 a5
 simp -dsimp +contextual (maxSteps:=100000000) only [↓evA,eZ,Nat.reduceAdd,Nat.reduceMul,Nat.reduceBEq,Nat.reduceLeDiff,Nat.reduceLT]
 try simp only [Qae,eY]
 all_goals rfl
theorem Qj4 (a2 a4 a5) {R1 a R2 a3} [H1 : EncR QM R1 a] [H2 : EncL Qs R2 a3] : LP T (n + 1) 42 8 (frm [(1,.ptr 0 0 0),(3,.i .i64 a2),(25,.imm 5 R2),(26,.i .i64 a4),(27,.i .i64 a5)]) [some (Ent.box R1)] =
  (run (Z5 a a3 a4) (a2,a5)).map (fun (zr : Int)=>(XE.exit 2,frm [(1,.ptr 0 0 0),(3,.i .i64 zr)],[some (Ent.box (QM a))])):=by
 rcases H1,H2 with ⟨⟨rfl⟩,⟨rfl⟩⟩
 rw [QH]
 simp -dsimp only [↓evA,evB,Qr,Tryz.func42,Tryz.f42,Qxe,Qp3,TP,TZ,Nat.reduceAdd,Nat.reduceMul,Nat.reduceBEq,Nat.reduceLeDiff,Nat.reduceLT]
 apply VP a2 a5
 intro a2 a5
 simp -dsimp +contextual (maxSteps:=100000000) only [↓evA,eZ,Nat.reduceAdd,Nat.reduceMul,Nat.reduceBEq,Nat.reduceLeDiff,Nat.reduceLT]
 try simp only [Z5,eY]
 all_goals rfl
theorem Qio (a2 a4 a5) {R1 a R2 a3} [H1 : EncR QM R1 a] [H2 : EncL VS R2 a3] : LP T (n + 1) 42 13 (frm [(1,.ptr 0 0 0),(3,.i .i64 a2),(37,.imm 5 R2),(38,.i .i64 a4),(39,.i .i64 a5)]) [some (Ent.box R1)] =
  (run (Zy a a3 a4) (a2,a5)).map (fun (zr : Int)=>(XE.exit 4,frm [(1,.ptr 0 0 0),(3,.i .i64 zr)],[some (Ent.box (QM a))])):=by
 rcases H1,H2 with ⟨⟨rfl⟩,⟨rfl⟩⟩
 rw [QH]
 simp -dsimp only [↓evA,evB,Qr,Tryz.func42,Tryz.f42,Qxe,Qp3,TP,TZ,Nat.reduceAdd,Nat.reduceMul,Nat.reduceBEq,Nat.reduceLeDiff,Nat.reduceLT]
 apply VP a2 a5
 intro a2 a5
 simp -dsimp +contextual (maxSteps:=100000000) only [↓evA,eZ,Nat.reduceAdd,Nat.reduceMul,Nat.reduceBEq,Nat.reduceLeDiff,Nat.reduceLT]
 try simp only [Zy,eY]
 all_goals rfl
theorem QiO (a a3 a4) {R1 a2} [H1 : EncL VN R1 a2] : LP T (n + 1) 42 18 (frm [(3,.i .i64 a),(49,.imm 4 R1),(50,.i .i64 a3),(51,.i .i64 a4)]) [] =
  (run (Zz a2 a3) (a,a4)).map (fun (zr : Int)=>(XE.exit 6,frm [(3,.i .i64 zr)],[])):=by
 obtain ⟨rfl⟩:=H1
 rw [QH]
 simp -dsimp only [↓evA,evB,Qr,Tryz.func42,Tryz.f42,Qxe,Qp3,TP,TZ,Nat.reduceAdd,Nat.reduceMul,Nat.reduceBEq,Nat.reduceLeDiff,Nat.reduceLT]
 apply VP a a4
 intro a a4
 simp -dsimp +contextual only [↓evA,eZ,Nat.reduceAdd,Nat.reduceMul,Nat.reduceBEq,Nat.reduceLeDiff,Nat.reduceLT]
 try simp only [Zz,eY]
 all_goals rfl
theorem Qnb {R1 a} [H1 : EncR QM R1 a] : CP T (n + 2) 42 [.agg R1] = (Qdv a).map fun r=>.i .i64 r:=by
 obtain ⟨rfl⟩:=H1
 rw [Qg]
 simp -dsimp +contextual (maxSteps:=100000000) only [↓evA,eZ,Nat.reduceAdd,Nat.reduceMul,Nat.reduceBEq,Nat.reduceLeDiff,Nat.reduceLT,Tryz.func42,Tryz.f42,Qxe,Qp3,Qkf,Qj4,Qio,QiO]
 try simp only [Qdv,eY]
 all_goals rfl
theorem Jy {R1 a} [H1 : EncR QM R1 a] : CP T (n + 11) 7 [.agg R1] = (Q9 a).map fun r=>.b r:=by
 obtain ⟨rfl⟩:=H1
 rw [Qg]
 simp -dsimp +contextual (maxSteps:=100000000) only [↓evA,eZ,Nat.reduceAdd,Nat.reduceMul,Nat.reduceBEq,Nat.reduceLeDiff,Nat.reduceLT,Tryz.func7,Tryz.f7,Aa7,An7,Q0,QfM,QeF,QdE,Qdf,Qd4,Qbl,QlI,Qka,Qnb]
 try simp only [Q9,eY]
 all_goals rfl
theorem QdN {R1 s} [H1 : EncL Vf R1 s] : CP T (n + 1) 128 [.imm 8 R1] = (X2 s).map fun r=>.own 8 (r.map Vf):=by
 obtain ⟨rfl⟩:=H1
 rw [Qg]
 simp -dsimp +contextual only [↓evA,eZ,Nat.reduceAdd,Nat.reduceMul,Nat.reduceBEq,Nat.reduceLeDiff,Nat.reduceLT,Tryz.func128,Tryz.f128,QKP,QtA]
 try simp only [X2,eY]
 all_goals first | rfl | (simp +contextual only [evN] <;> rfl)
theorem QfA (a2 a3) {R1 o R2 a} [H1 : EncL Q7 R1 o] [H2 : EncL VX R2 a] : LP T (n + 2) 129 3 (frm [(3,.sl 0),(7,.imm 3 R2),(8,.i .i64 a2),(9,.i .i64 a3)]) [some (Ent.lst 3 R1)] =
  (run (V9 a a2) (o,a3)).map (fun (zr : (List Secret))=>(XE.exit 0,frm [(3,.sl 0)],[some (Ent.lst 3 (zr.map Q7))])):=by
 rcases H1,H2 with ⟨⟨rfl⟩,⟨rfl⟩⟩
 rw [QH]
 simp -dsimp only [↓evA,evB,Qr,Tryz.func129,Tryz.f129,QDk,QpF,TP,TZ,Nat.reduceAdd,Nat.reduceMul,Nat.reduceBEq,Nat.reduceLeDiff,Nat.reduceLT]
 apply VP o a3
 intro o a3
 simp -dsimp +contextual only [↓evA,eZ,Nat.reduceAdd,Nat.reduceMul,Nat.reduceBEq,Nat.reduceLeDiff,Nat.reduceLT,Qb1]
 try simp only [V9,eY]
 all_goals rfl
theorem QdM {R1 l} [H1 : EncL VX R1 l] : CP T (n + 3) 129 [.imm 3 R1] = (X0 l).map fun r=>.own 3 (r.map Q7):=by
 obtain ⟨rfl⟩:=H1
 rw [Qg]
 simp -dsimp +contextual only [↓evA,eZ,Nat.reduceAdd,Nat.reduceMul,Nat.reduceBEq,Nat.reduceLeDiff,Nat.reduceLT,Tryz.func129,Tryz.f129,QDk,QpF,QfA]
 try simp only [X0,eY]
 all_goals first | rfl | (simp +contextual only [evN] <;> rfl)
theorem Qb0 {R1 s} [H1 : EncL VT R1 s] : CP T (n + 1) 130 [.imm 3 R1] = (Xj s).map fun r=>.own 3 (r.map VT):=by
 obtain ⟨rfl⟩:=H1
 rw [Qg]
 simp -dsimp +contextual only [↓evA,eZ,Nat.reduceAdd,Nat.reduceMul,Nat.reduceBEq,Nat.reduceLeDiff,Nat.reduceLT,Tryz.func130,Tryz.f130,QIb,Qsx]
 try simp only [Xj,eY]
 all_goals first | rfl | (simp +contextual only [evN] <;> rfl)
theorem QbC {R1 s} [H1 : EncL Qs R1 s] : CP T (n + 1) 131 [.imm 5 R1] = (Vk s).map fun r=>.own 5 (r.map Qs):=by
 obtain ⟨rfl⟩:=H1
 rw [Qg]
 simp -dsimp +contextual only [↓evA,eZ,Nat.reduceAdd,Nat.reduceMul,Nat.reduceBEq,Nat.reduceLeDiff,Nat.reduceLT,Tryz.func131,Tryz.f131,QKZ,QsC]
 try simp only [Vk,eY]
 all_goals first | rfl | (simp +contextual only [evN] <;> rfl)
end Go.Proofs.YtonidbheohhgdaaGreat
