import Derived.Test.YtonidbheohhgdaaGreatEq2
namespace Go.Proofs.YtonidbheohhgdaaGreat
open Go Go.Proofs Go.Proofs.YtonidbheohhgdaaGreat.Am
set_option maxHeartbeats 4000000
set_option linter.unusedVariables false
set_option linter.unusedSimpArgs false
set_option linter.defProp false
set_option maxRecDepth 100000
variable(n:Nat)
theorem Qdy{R1 c}[H1:EncL QbJ R1 c]:CA T (n+18) 20 [] [.imm 1 R1]=(JZ c).map fun r=>(.tup [.agg (VN r.1),.imm 9 (r.2.1.map Q6),.i .i64 r.2.2],[]):=by
 obtain⟨rfl⟩:=H1;rw[QaJ];simp -dsimp +contextual (maxSteps:=100000000) only[↓evA,eZ,Nat.reduceAdd,Nat.reduceMul,Nat.reduceBEq,Nat.reduceLeDiff,Nat.reduceLT,Tryz.func20,Tryz.f20,QG6,Qwb,srt,Qe7,Qo,QoI,VQ,Qoz,QfL]
 try simp only[JZ,eY]
 all_goals rfl
theorem Qih(c){R1 a}[H1:EncR VM R1 a]:CP T (n+1) 139 [.agg R1,.iptr 1 [[.i .i64 c]] 0 0]=(QbC a c).map fun r=>.b r:=by
 obtain⟨rfl⟩:=H1;rw[Qm];simp -dsimp +contextual only[↓evA,eZ,Nat.reduceAdd,Nat.reduceMul,Nat.reduceBEq,Nat.reduceLeDiff,Nat.reduceLT,Tryz.func139,Tryz.f139,QNx,QsP]
 try simp only[QbC,eY]
 all_goals rfl
theorem Z8(f a a2){R1 s}[H1:EncL VM R1 s]:LP T (n+2) 138 2 (frm [(0,.imm 3 R1),(1,.clo 139 [.iptr 1 [[.i .i64 f]] 0 0]),(7,.i .i64 a),(8,.i .i64 a2)]) [] =
  Qbe (run (Qx s f a) a2) (fun(zr:Int)=>(XE.ret,frm [(4,.i .i64 zr)],[])) (fun(zr:Unit)=>(XE.exit 0,frm [],[])):=by
 obtain⟨rfl⟩:=H1;rw[QK];simp -dsimp only[↓evA,evB,Qu,Tryz.func138,Tryz.f138,QB8,Qp6,TP,TZ,Nat.reduceAdd,Nat.reduceMul,Nat.reduceBEq,Nat.reduceLeDiff,Nat.reduceLT];apply QP a2;intro a2;simp -dsimp +contextual only[↓evA,eZ,Nat.reduceAdd,Nat.reduceMul,Nat.reduceBEq,Nat.reduceLeDiff,Nat.reduceLT,Qih]
 try simp only[Qx,eY]
 all_goals rfl
theorem QaE(c){R1 s}[H1:EncL VM R1 s]:CP T (n+3) 138 [.imm 3 R1,.clo 139 [.iptr 1 [[.i .i64 c]] 0 0]]=(Vd s c).map fun r=>.i .i64 r:=by
 obtain⟨rfl⟩:=H1;rw[Qm];simp -dsimp +contextual only[↓evA,eZ,Nat.reduceAdd,Nat.reduceMul,Nat.reduceBEq,Nat.reduceLeDiff,Nat.reduceLT,Tryz.func138,Tryz.f138,QB8,Qp6,Z8]
 try simp only[Vd,eY]
 all_goals rfl
theorem QkL(a){R1 l}[H1:EncL VM R1 l]:CP T (n+4) 64 [.imm 3 R1,.i .i64 a]=(VS l a).map fun r=>.i .i64 r:=by
 obtain⟨rfl⟩:=H1;rw[Qm];simp -dsimp +contextual only[↓evA,eZ,Nat.reduceAdd,Nat.reduceMul,Nat.reduceBEq,Nat.reduceLeDiff,Nat.reduceLT,Tryz.func64,Tryz.f64,QSz,Qzu,QaE]
 try simp only[VS,eY]
 all_goals rfl
theorem Qf5(a3 a4){R1 a R2 o R3 a2}[H1:EncR Q6 R1 a][H2:EncL QX R2 o][H3:EncL QX R3 a2]:LP T (n+5) 89 3 (frm [(1,.ptr 0 0 0),(3,.sl 1),(8,.imm 8 R3),(9,.i .i64 a3),(10,.i .i64 a4)]) [some (Ent.box R1),some (Ent.lst 8 R2)] =
  (run (X3 a a2 a3) (o,a4)).map (fun(zr:(List Find))=>(XE.exit 0,frm [(3,.sl 0)],[some (Ent.lst 8 (zr.map QX))])):=by
 rcases H1,H2,H3 with⟨⟨rfl⟩,⟨rfl⟩,⟨rfl⟩⟩
 rw[QK];simp -dsimp only[↓evA,evB,Qu,Tryz.func89,Tryz.f89,QG1,QxG,TP,TZ,Nat.reduceAdd,Nat.reduceMul,Nat.reduceBEq,Nat.reduceLeDiff,Nat.reduceLT];apply Ve o a4;intro o a4;simp -dsimp +contextual (maxSteps:=100000000) only[↓evA,eZ,Nat.reduceAdd,Nat.reduceMul,Nat.reduceBEq,Nat.reduceLeDiff,Nat.reduceLT,QkL]
 try simp only[X3,eY]
 all_goals rfl
theorem QdY{R1 a}[H1:EncR Q6 R1 a]:CP T (n+6) 89 [.agg R1]=(Zh a).map fun r=>.own 8 (r.map QX):=by
 obtain⟨rfl⟩:=H1;rw[Qm];simp -dsimp +contextual (maxSteps:=100000000) only[↓evA,eZ,Nat.reduceAdd,Nat.reduceMul,Nat.reduceBEq,Nat.reduceLeDiff,Nat.reduceLT,Tryz.func89,Tryz.f89,QG1,QxG,Qf5]
 try simp only[Zh,eY]
 all_goals first|rfl|(simp +contextual only[evN]<;>rfl)
theorem Ze(a l a2):CP T (n+1) 33 [.i .i64 a,.i .i64 l,.i .i64 a2]=(Qb a l a2).map fun r=>.b r:=by
 rw[Qm];simp -dsimp +contextual only[↓evA,eZ,Nat.reduceAdd,Nat.reduceMul,Nat.reduceBEq,Nat.reduceLeDiff,Nat.reduceLT,Tryz.func33,Tryz.f33,QPu,QzA]
 try simp only[Qb,eY]
 all_goals rfl
theorem Qmd{R1 a}[H1:EncR Qc3 R1 a]:CP T (n+2) 170 [.agg R1]=(JK a).map fun r=>.b r:=by
 obtain⟨rfl⟩:=H1;rw[Qm];simp -dsimp +contextual only[↓evA,eZ,Nat.reduceAdd,Nat.reduceMul,Nat.reduceBEq,Nat.reduceLeDiff,Nat.reduceLT,Tryz.func170,Tryz.f170,QNA,Qth,Ze]
 try simp only[JK,eY]
 all_goals rfl
theorem Qhe{R1 f}[H1:EncR QX R1 f]:CP T (n+3) 94 [.agg R1]=(Xn f).map fun r=>.b r:=by
 obtain⟨rfl⟩:=H1;rw[Qm];simp -dsimp +contextual only[↓evA,eZ,Nat.reduceAdd,Nat.reduceMul,Nat.reduceBEq,Nat.reduceLeDiff,Nat.reduceLT,Tryz.func94,Tryz.f94,QR9,QAC,Qmd,Ze]
 try simp only[Xn,eY]
 all_goals rfl
theorem QhL(a2 a3){R1 l R2 a}[H1:EncL QX R1 l][H2:EncL QX R2 a]:LP T (n+4) 34 4 (frm [(0,.imm 8 R1),(8,.imm 8 R2),(9,.i .i64 a2),(10,.i .i64 a3)]) [] =
  Qbe (run (QD l a a2) a3) (fun(zr:Bool)=>(XE.ret,frm [(2,.b zr)],[])) (fun(zr:Unit)=>(XE.exit 0,frm [],[])):=by
 rcases H1,H2 with⟨⟨rfl⟩,⟨rfl⟩⟩
 rw[QK];simp -dsimp only[↓evA,evB,Qu,Tryz.func34,Tryz.f34,QIW,QxV,TP,TZ,Nat.reduceAdd,Nat.reduceMul,Nat.reduceBEq,Nat.reduceLeDiff,Nat.reduceLT];apply QP a3;intro a3;simp -dsimp +contextual only[↓evA,eZ,Nat.reduceAdd,Nat.reduceMul,Nat.reduceBEq,Nat.reduceLeDiff,Nat.reduceLT,Qhe]
 try simp only[QD,eY]
 all_goals rfl
theorem QkE{R1 l}[H1:EncL QX R1 l]:CP T (n+5) 34 [.imm 8 R1]=(Q2 l).map fun r=>.b r:=by
 obtain⟨rfl⟩:=H1;rw[Qm];simp -dsimp +contextual only[↓evA,eZ,Nat.reduceAdd,Nat.reduceMul,Nat.reduceBEq,Nat.reduceLeDiff,Nat.reduceLT,Tryz.func34,Tryz.f34,QIW,QxV,QhL]
 try simp only[Q2,eY]
 all_goals rfl
theorem Qrj(p q):CP T (n+2) 270 [.i .i64 p,.i .i64 q]=(Qcb p q).map fun r=>.i .i64 r:=by
 rw[Qm];simp -dsimp +contextual only[↓evA,eZ,Nat.reduceAdd,Nat.reduceMul,Nat.reduceBEq,Nat.reduceLeDiff,Nat.reduceLT,Tryz.func270,Tryz.f270,QLl,Qsw,Ze]
 try simp only[Qcb,eY]
 all_goals rfl
theorem Qqt(a v):CP T (n+3) 227 [.i .i64 a,.i .i64 v]=(QgR a v).map fun r=>.i .i64 r:=by
 rw[Qm];simp -dsimp +contextual only[↓evA,eZ,Nat.reduceAdd,Nat.reduceMul,Nat.reduceBEq,Nat.reduceLeDiff,Nat.reduceLT,Tryz.func227,Tryz.f227,QIl,QsX,Qrj]
 try simp only[QgR,eY]
 all_goals rfl
theorem QlX(a a3 a4){R1 a2}[H1:EncL Qj R1 a2]:LP T (n+4) 171 3 (frm [(3,.i .i64 a),(6,.imm 1 R1),(7,.i .i64 a3),(8,.i .i64 a4)]) [] =
  (run (Qcn a2 a3) (a,a4)).map (fun(zr:Int)=>(XE.exit 0,frm [(3,.i .i64 zr)],[])):=by
 obtain⟨rfl⟩:=H1;rw[QK];simp -dsimp only[↓evA,evB,Qu,Tryz.func171,Tryz.f171,QCI,Qpb,TP,TZ,Nat.reduceAdd,Nat.reduceMul,Nat.reduceBEq,Nat.reduceLeDiff,Nat.reduceLT];apply Ve a a4;intro a a4;simp -dsimp +contextual only[↓evA,eZ,Nat.reduceAdd,Nat.reduceMul,Nat.reduceBEq,Nat.reduceLeDiff,Nat.reduceLT,Qqt]
 try simp only[Qcn,eY]
 all_goals rfl
theorem Qo4{R1 v}[H1:EncL Qj R1 v]:CP T (n+5) 171 [.imm 1 R1]=(QbO v).map fun r=>.i .i64 r:=by
 obtain⟨rfl⟩:=H1;rw[Qm];simp -dsimp +contextual only[↓evA,eZ,Nat.reduceAdd,Nat.reduceMul,Nat.reduceBEq,Nat.reduceLeDiff,Nat.reduceLT,Tryz.func171,Tryz.f171,QCI,Qpb,QlX]
 try simp only[QbO,eY]
 all_goals rfl
theorem Qkg(s k c s2):CP T (n+6) 219 [.i .i64 s,.i .i64 k,.i .i64 c,.i .i64 s2]=(QbW s k c s2).map fun r=>.i .i64 r:=by
 rw[Qm];simp -dsimp +contextual only[↓evA,eZ,Nat.reduceAdd,Nat.reduceMul,Nat.reduceBEq,Nat.reduceLeDiff,Nat.reduceLT,Tryz.func219,Tryz.f219,QJl,Qsv,Qo4]
 try simp only[QbW,eY]
 all_goals rfl
theorem QmS(s){R1 a}[H1:EncR Qc3 R1 a]:CP T (n+7) 165 [.agg R1,.i .i64 s]=(QcV a s).map fun r=>.i .i64 r:=by
 obtain⟨rfl⟩:=H1;rw[Qm];simp -dsimp +contextual only[↓evA,eZ,Nat.reduceAdd,Nat.reduceMul,Nat.reduceBEq,Nat.reduceLeDiff,Nat.reduceLT,Tryz.func165,Tryz.f165,QK3,Qt5,Qkg]
 try simp only[QcV,eY]
 all_goals rfl
theorem Qfl(s2 a2 a3){R1 s R2 a}[H1:EncL Qev R1 s][H2:EncL Qev R2 a]:LP T (n+1) 223 3 (frm [(0,.imm 1 R1),(3,.i .i64 s2),(9,.imm 1 R2),(10,.i .i64 a2),(11,.i .i64 a3)]) [] =
  (run (Vb s a a2) (s2,a3)).map (fun(zr:Int)=>(XE.exit 0,frm [(0,.imm 1 (s.map Qev)),(3,.i .i64 zr)],[])):=by
 rcases H1,H2 with⟨⟨rfl⟩,⟨rfl⟩⟩
 rw[QK];simp -dsimp only[↓evA,evB,Qu,Tryz.func223,Tryz.f223,QvB,QnE,TP,TZ,Nat.reduceAdd,Nat.reduceMul,Nat.reduceBEq,Nat.reduceLeDiff,Nat.reduceLT];apply Ve s2 a3;intro s2 a3;simp -dsimp +contextual only[↓evA,eZ,Nat.reduceAdd,Nat.reduceMul,Nat.reduceBEq,Nat.reduceLeDiff,Nat.reduceLT]
 try simp only[Vb,eY]
 all_goals rfl
theorem QeH(a3 a4){R1 a R2 a2}[H1:EncL Qj R1 a][H2:EncL Qev R2 a2]:LP T (n+1) 223 11 (frm [(6,.sl 0),(25,.imm 1 R2),(26,.i .i64 a3),(27,.i .i64 a4)]) [some (Ent.lst 1 R1)] =
  (run (VG a2 a3) (a,a4)).map (fun(zr:(List Int))=>(XE.exit 2,frm [(6,.sl 0)],[some (Ent.lst 1 (zr.map Qj))])):=by
 rcases H1,H2 with⟨⟨rfl⟩,⟨rfl⟩⟩
 rw[QK];simp -dsimp only[↓evA,evB,Qu,Tryz.func223,Tryz.f223,QvB,QnE,TP,TZ,Nat.reduceAdd,Nat.reduceMul,Nat.reduceBEq,Nat.reduceLeDiff,Nat.reduceLT];apply Ve a a4;intro a a4;simp -dsimp +contextual only[↓evA,eZ,Nat.reduceAdd,Nat.reduceMul,Nat.reduceBEq,Nat.reduceLeDiff,Nat.reduceLT]
 try simp only[VG,eY]
 all_goals rfl
theorem Qg2{R1 s}[H1:EncL Qev R1 s]:CP T (n+2) 223 [.imm 1 R1]=(Zv s).map fun r=>.own 1 (r.map Qj):=by
 obtain⟨rfl⟩:=H1;rw[Qm];simp -dsimp +contextual only[↓evA,eZ,Nat.reduceAdd,Nat.reduceMul,Nat.reduceBEq,Nat.reduceLeDiff,Nat.reduceLT,Tryz.func223,Tryz.f223,QvB,QnE,Qi4,Qfl,QeH]
 try simp only[Zv,eY]
 all_goals first|rfl|(simp +contextual only[evN]<;>rfl)
theorem QcD{R1 a}[H1:EncL Qj R1 a]:CP T (n+3) 166 [.imm 1 R1,.nil]=(Vr a).map fun r=>.own 1 (r.map Qj):=by
 obtain⟨rfl⟩:=H1;rw[Qm];simp -dsimp +contextual only[↓evA,eZ,Nat.reduceAdd,Nat.reduceMul,Nat.reduceBEq,Nat.reduceLeDiff,Nat.reduceLT,Tryz.func166,Tryz.f166,QJL,Qsz,srt,Qg2]
 try simp only[Vr,eY]
 all_goals first|rfl|(simp +contextual only[evN]<;>rfl)
theorem Qh2(s a2 a3){R1 o R2 a}[H1:EncL Qj R1 o][H2:EncL QX R2 a]:LP T (n+8) 88 5 (frm [(1,.i .i64 s),(5,.sl 0),(13,.imm 8 R2),(14,.i .i64 a2),(15,.i .i64 a3)]) [some (Ent.lst 1 R1)] =
  (run (VR s a a2) (o,a3)).map (fun(zr:(List Int))=>(XE.exit 0,frm [(5,.sl 0)],[some (Ent.lst 1 (zr.map Qj))])):=by
 rcases H1,H2 with⟨⟨rfl⟩,⟨rfl⟩⟩
 rw[QK];simp -dsimp only[↓evA,evB,Qu,Tryz.func88,Tryz.f88,QHQ,QxX,TP,TZ,Nat.reduceAdd,Nat.reduceMul,Nat.reduceBEq,Nat.reduceLeDiff,Nat.reduceLT];apply Ve o a3;intro o a3;simp -dsimp +contextual only[↓evA,eZ,Nat.reduceAdd,Nat.reduceMul,Nat.reduceBEq,Nat.reduceLeDiff,Nat.reduceLT,QmS]
 try simp only[VR,eY]
 all_goals rfl
theorem QlE(s){R1 l}[H1:EncL QX R1 l]:CP T (n+9) 88 [.imm 8 R1,.i .i64 s]=(Qcd l s).map fun r=>.own 1 (r.map Qj):=by
 obtain⟨rfl⟩:=H1;rw[Qm];simp -dsimp +contextual only[↓evA,eZ,Nat.reduceAdd,Nat.reduceMul,Nat.reduceBEq,Nat.reduceLeDiff,Nat.reduceLT,Tryz.func88,Tryz.f88,QHQ,QxX,QkE,QcD,Qh2]
 try simp only[Qcd,eY]
 all_goals first|rfl|(simp +contextual only[evN]<;>rfl)
theorem Qb8(s){R1 a}[H1:EncR Q6 R1 a]:CP T (n+10) 29 [.agg R1,.i .i64 s]=(Xc a s).map fun r=>.own 1 (r.map Qj):=by
 obtain⟨rfl⟩:=H1;rw[Qm];simp -dsimp +contextual (maxSteps:=100000000) only[↓evA,eZ,Nat.reduceAdd,Nat.reduceMul,Nat.reduceBEq,Nat.reduceLeDiff,Nat.reduceLT,Tryz.func29,Tryz.f29,QOH,QAo,QdY,QlE]
 try simp only[Xc,eY]
 all_goals first|rfl|(simp +contextual only[evN]<;>rfl)
theorem QfO(l2 a a3 a4){R1 l R2 a2}[H1:EncL Qj R1 l][H2:EncL Qj R2 a2]:LP T (n+2) 266 2 (frm [(0,.imm 1 R1),(1,.i .i64 l2),(2,.i .i64 a),(9,.imm 1 R2),(10,.i .i64 a3),(11,.i .i64 a4)]) [] =
  Qbe (run (VF l l2 a a2 a3) a4) (fun(zr:Bool)=>(XE.ret,frm [(6,.b zr)],[])) (fun(zr:Unit)=>(XE.exit 0,frm [],[])):=by
 rcases H1,H2 with⟨⟨rfl⟩,⟨rfl⟩⟩
 rw[QK];simp -dsimp only[↓evA,evB,Qu,Tryz.func266,Tryz.f266,QBG,Qqu,TP,TZ,Nat.reduceAdd,Nat.reduceMul,Nat.reduceBEq,Nat.reduceLeDiff,Nat.reduceLT];apply QP a4;intro a4;simp -dsimp +contextual only[↓evA,eZ,Nat.reduceAdd,Nat.reduceMul,Nat.reduceBEq,Nat.reduceLeDiff,Nat.reduceLT,Ze]
 try simp only[VF,eY]
 all_goals rfl
theorem QhN(l2 a){R1 l}[H1:EncL Qj R1 l]:CP T (n+3) 266 [.imm 1 R1,.i .i64 l2,.i .i64 a]=(JT l l2 a).map fun r=>.b r:=by
 obtain⟨rfl⟩:=H1;rw[Qm];simp -dsimp +contextual only[↓evA,eZ,Nat.reduceAdd,Nat.reduceMul,Nat.reduceBEq,Nat.reduceLeDiff,Nat.reduceLT,Tryz.func266,Tryz.f266,QBG,Qqu,QfO]
 try simp only[JT,eY]
 all_goals rfl
theorem QmI{R1 s}[H1:EncR Qiq R1 s]:CP T (n+2) 267 [.agg R1]=(Qec s).map fun r=>.b r:=by
 obtain⟨rfl⟩:=H1;rw[Qm];simp -dsimp +contextual only[↓evA,eZ,Nat.reduceAdd,Nat.reduceMul,Nat.reduceBEq,Nat.reduceLeDiff,Nat.reduceLT,Tryz.func267,Tryz.f267,QKd,QtY,Ze]
 try simp only[Qec,eY]
 all_goals rfl
theorem QfI{R1 r}[H1:EncR VN R1 r]:CP T (n+4) 217 [.agg R1]=(ZD r).map fun r=>.b r:=by
 obtain⟨rfl⟩:=H1;rw[Qm];simp -dsimp +contextual only[↓evA,eZ,Nat.reduceAdd,Nat.reduceMul,Nat.reduceBEq,Nat.reduceLeDiff,Nat.reduceLT,Tryz.func217,Tryz.f217,QKC,QtD,Ze,QhN,QmI]
 try simp only[ZD,eY]
 all_goals rfl
theorem QfQ(v a a2){R1 s}[H1:EncL Qj R1 s]:LP T (n+1) 172 2 (frm [(0,.imm 1 R1),(1,.i .i64 v),(7,.i .i64 a),(8,.i .i64 a2)]) [] =
  Qbe (run (XL s v a) a2) (fun(zr:Int)=>(XE.ret,frm [(4,.i .i64 zr)],[])) (fun(zr:Unit)=>(XE.exit 0,frm [],[])):=by
 obtain⟨rfl⟩:=H1;rw[QK];simp -dsimp only[↓evA,evB,Qu,Tryz.func172,Tryz.f172,QCb,Qpi,TP,TZ,Nat.reduceAdd,Nat.reduceMul,Nat.reduceBEq,Nat.reduceLeDiff,Nat.reduceLT];apply QP a2;intro a2;simp -dsimp +contextual only[↓evA,eZ,Nat.reduceAdd,Nat.reduceMul,Nat.reduceBEq,Nat.reduceLeDiff,Nat.reduceLT]
 try simp only[XL,eY]
 all_goals rfl
theorem QhY(v){R1 s}[H1:EncL Qj R1 s]:CP T (n+2) 172 [.imm 1 R1,.i .i64 v]=(Qba s v).map fun r=>.i .i64 r:=by
 obtain⟨rfl⟩:=H1;rw[Qm];simp -dsimp +contextual only[↓evA,eZ,Nat.reduceAdd,Nat.reduceMul,Nat.reduceBEq,Nat.reduceLeDiff,Nat.reduceLT,Tryz.func172,Tryz.f172,QCb,Qpi,QfQ]
 try simp only[Qba,eY]
 all_goals rfl
theorem Qcy(v){R1 s}[H1:EncL Qj R1 s]:CP T (n+3) 98 [.imm 1 R1,.i .i64 v]=(VW s v).map fun r=>.b r:=by
 obtain⟨rfl⟩:=H1;rw[Qm];simp -dsimp +contextual only[↓evA,eZ,Nat.reduceAdd,Nat.reduceMul,Nat.reduceBEq,Nat.reduceLeDiff,Nat.reduceLT,Tryz.func98,Tryz.f98,QR7,QAn,QhY]
 try simp only[VW,eY]
 all_goals rfl
theorem Qhf(a){R1 l}[H1:EncL Qj R1 l]:CP T (n+4) 218 [.imm 1 R1,.i .i64 a]=(QaN l a).map fun r=>.b r:=by
 obtain⟨rfl⟩:=H1;rw[Qm];simp -dsimp +contextual only[↓evA,eZ,Nat.reduceAdd,Nat.reduceMul,Nat.reduceBEq,Nat.reduceLeDiff,Nat.reduceLT,Tryz.func218,Tryz.f218,QLb,QsZ,Qcy]
 try simp only[QaN,eY]
 all_goals rfl
theorem QhU(s c s2 a){R1 r R2 o}[H1:EncR VN R1 r][H2:EncL Qj R2 o]:LP T (n+7) 159 8 (frm [(1,.i .i64 s),(2,.ptr 0 0 0),(5,.sl 1),(6,.i .i64 c),(7,.i .i64 s2),(13,.i .i64 a)]) [some (Ent.box R1),some (Ent.lst 1 R2)] =
  (run (JU s r c a) (o,s2)).map (fun(zr:(List Int))=>(XE.exit 2,frm [(1,.i .i64 s),(2,.ptr 0 0 0),(5,.sl 1),(13,.i .i64 a)],[some (Ent.box (VN r)),some (Ent.lst 1 (zr.map Qj))])):=by
 rcases H1,H2 with⟨⟨rfl⟩,⟨rfl⟩⟩
 rw[QK];simp -dsimp only[↓evA,evB,Qu,Tryz.func159,Tryz.f159,Qxh,Qng,TP,TZ,Nat.reduceAdd,Nat.reduceMul,Nat.reduceBEq,Nat.reduceLeDiff,Nat.reduceLT];apply Ve o s2;intro o s2;simp -dsimp +contextual only[↓evA,eZ,Nat.reduceAdd,Nat.reduceMul,Nat.reduceBEq,Nat.reduceLeDiff,Nat.reduceLT,Qhf,Qkg]
 try simp only[JU,eY]
 all_goals rfl
theorem Qhv(s a){R1 r R2 o}[H1:EncR VN R1 r][H2:EncL Qj R2 o]:LP T (n+8) 159 5 (frm [(1,.i .i64 s),(2,.ptr 0 0 0),(5,.sl 1),(13,.i .i64 a)]) [some (Ent.box R1),some (Ent.lst 1 R2)] =
  (run (Xq s r) (o,a)).map (fun(zr:(List Int))=>(XE.exit 0,frm [(5,.sl 0)],[some (Ent.lst 1 (zr.map Qj))])):=by
 rcases H1,H2 with⟨⟨rfl⟩,⟨rfl⟩⟩
 rw[QK];simp -dsimp only[↓evA,evB,Qu,Tryz.func159,Tryz.f159,Qxh,Qng,TP,TZ,Nat.reduceAdd,Nat.reduceMul,Nat.reduceBEq,Nat.reduceLeDiff,Nat.reduceLT];apply Ve o a;intro o a;simp -dsimp +contextual only[↓evA,eZ,Nat.reduceAdd,Nat.reduceMul,Nat.reduceBEq,Nat.reduceLeDiff,Nat.reduceLT,QhU]
 try simp only[Xq,eY]
 all_goals rfl
theorem QkD(s){R1 r}[H1:EncR VN R1 r]:CP T (n+9) 159 [.agg R1,.i .i64 s]=(Qbl r s).map fun r=>.own 1 (r.map Qj):=by
 obtain⟨rfl⟩:=H1;rw[Qm];simp -dsimp +contextual only[↓evA,eZ,Nat.reduceAdd,Nat.reduceMul,Nat.reduceBEq,Nat.reduceLeDiff,Nat.reduceLT,Tryz.func159,Tryz.f159,Qxh,Qng,QfI,QcD,Qhv]
 try simp only[Qbl,eY]
 all_goals first|rfl|(simp +contextual only[evN]<;>rfl)
theorem QfS(a a3 a4){R1 b R2 a2}[H1:EncL Qj R1 b][H2:EncL Qj R2 a2]:LP T (n+4) 158 3 (frm [(1,.imm 1 R1),(5,.i .i64 a),(9,.sl 0),(10,.i .i64 a3),(11,.i .i64 a4)]) [some (Ent.lst 1 R2)] =
  (run (XK b a2 a3) (a,a4)).map (fun(zr:Int)=>(XE.exit 0,frm [(5,.i .i64 zr)],[])):=by
 rcases H1,H2 with⟨⟨rfl⟩,⟨rfl⟩⟩
 rw[QK];simp -dsimp only[↓evA,evB,Qu,Tryz.func158,Tryz.f158,QCo,Qq2,TP,TZ,Nat.reduceAdd,Nat.reduceMul,Nat.reduceBEq,Nat.reduceLeDiff,Nat.reduceLT];apply Ve a a4;intro a a4;simp -dsimp +contextual only[↓evA,eZ,Nat.reduceAdd,Nat.reduceMul,Nat.reduceBEq,Nat.reduceLeDiff,Nat.reduceLT,Qcy]
 try simp only[XK,eY]
 all_goals rfl
theorem QhO{R1 a R2 b}[H1:EncL Qj R1 a][H2:EncL Qj R2 b]:CP T (n+5) 158 [.imm 1 R1,.imm 1 R2]=(ZT a b).map fun r=>.i .i64 r:=by
 rcases H1,H2 with⟨⟨rfl⟩,⟨rfl⟩⟩
 rw[Qm];simp -dsimp +contextual only[↓evA,eZ,Nat.reduceAdd,Nat.reduceMul,Nat.reduceBEq,Nat.reduceLeDiff,Nat.reduceLT,Tryz.func158,Tryz.f158,QCo,Qq2,QcD,QfS]
 try simp only[ZT,eY]
 all_goals rfl
theorem Qgi(s){R1 r R2 a}[H1:EncR VN R1 r][H2:EncL Qj R2 a]:CP T (n+10) 82 [.agg R1,.imm 1 R2,.i .i64 s]=(Zt r a s).map fun r=>.b r:=by
 rcases H1,H2 with⟨⟨rfl⟩,⟨rfl⟩⟩
 rw[Qm];simp -dsimp +contextual only[↓evA,eZ,Nat.reduceAdd,Nat.reduceMul,Nat.reduceBEq,Nat.reduceLeDiff,Nat.reduceLT,Tryz.func82,Tryz.f82,QRD,QAP,QkD,QhO]
 try simp only[Zt,eY]
 all_goals rfl
theorem QmG{R1 r R2 f}[H1:EncR VN R1 r][H2:EncR QX R2 f]:CP T (n+5) 220 [.agg R1,.agg R2]=(Qd0 r f).map fun r=>.s r:=by
 rcases H1,H2 with⟨⟨rfl⟩,⟨rfl⟩⟩
 rw[Qm];simp -dsimp +contextual only[↓evA,eZ,Nat.reduceAdd,Nat.reduceMul,Nat.reduceBEq,Nat.reduceLeDiff,Nat.reduceLT,Tryz.func220,Tryz.f220,QHz,QsL,QfI,Qhe,Qhf,Ze]
 try simp only[Qd0,eY]
 all_goals rfl
theorem Qn1{R1 r R2 f}[H1:EncR VN R1 r][H2:EncR QX R2 f]:CP T (n+6) 160 [.agg R1,.agg R2]=(ZE r f).map fun r=>.b r:=by
 rcases H1,H2 with⟨⟨rfl⟩,⟨rfl⟩⟩
 rw[Qm];simp -dsimp +contextual only[↓evA,eZ,Nat.reduceAdd,Nat.reduceMul,Nat.reduceBEq,Nat.reduceLeDiff,Nat.reduceLT,Tryz.func160,Tryz.f160,QLP,Qs5,QmG]
 try simp only[ZE,eY]
 all_goals rfl
theorem Qjo(a3 a4){R1 r R2 a R3 o R4 a2}[H1:EncR VN R1 r][H2:EncR Q6 R2 a][H3:EncL Qcq R3 o][H4:EncL QX R4 a2]:LP T (n+7) 83 3 (frm [(2,.ptr 0 0 0),(3,.ptr 1 0 0),(5,.sl 2),(10,.sl 3),(11,.i .i64 a3),(12,.i .i64 a4)]) [some (Ent.box R1),some (Ent.box R2),some (Ent.lst 2 R3),some (Ent.lst 8 R4)] =
  (run (Z2 r a a2 a3) (o,a4)).map (fun(zr:(List Hit))=>(XE.exit 0,frm [(5,.sl 0)],[some (Ent.lst 2 (zr.map Qcq))])):=by
 rcases H1,H2,H3,H4 with⟨⟨rfl⟩,⟨rfl⟩,⟨rfl⟩,⟨rfl⟩⟩
 rw[QK];simp -dsimp only[↓evA,evB,Qu,Tryz.func83,Tryz.f83,QK8,QwB,TP,TZ,Nat.reduceAdd,Nat.reduceMul,Nat.reduceBEq,Nat.reduceLeDiff,Nat.reduceLT];apply Ve o a4;intro o a4;simp -dsimp +contextual (maxSteps:=100000000) only[↓evA,eZ,Nat.reduceAdd,Nat.reduceMul,Nat.reduceBEq,Nat.reduceLeDiff,Nat.reduceLT,Qn1]
 try simp only[Z2,eY]
 all_goals rfl
theorem Qhk{R1 r R2 a}[H1:EncR VN R1 r][H2:EncR Q6 R2 a]:CP T (n+8) 83 [.agg R1,.agg R2]=(QbP r a).map fun r=>.own 2 (r.map Qcq):=by
 rcases H1,H2 with⟨⟨rfl⟩,⟨rfl⟩⟩
 rw[Qm];simp -dsimp +contextual (maxSteps:=100000000) only[↓evA,eZ,Nat.reduceAdd,Nat.reduceMul,Nat.reduceBEq,Nat.reduceLeDiff,Nat.reduceLT,Tryz.func83,Tryz.f83,QK8,QwB,QdY,Qjo]
 try simp only[QbP,eY]
 all_goals first|rfl|(simp +contextual only[evN]<;>rfl)
theorem Qh9(s a2 a3){R1 r R2 o R3 a}[H1:EncR VN R1 r][H2:EncL Qcq R2 o][H3:EncL Q6 R3 a]:LP T (n+11) 21 3 (frm [(2,.i .i64 s),(3,.ptr 0 0 0),(7,.sl 1),(11,.imm 9 R3),(12,.i .i64 a2),(13,.i .i64 a3)]) [some (Ent.box R1),some (Ent.lst 2 R2)] =
  (run (XM s r a a2) (o,a3)).map (fun(zr:(List Hit))=>(XE.exit 0,frm [(7,.sl 0)],[some (Ent.lst 2 (zr.map Qcq))])):=by
 rcases H1,H2,H3 with⟨⟨rfl⟩,⟨rfl⟩,⟨rfl⟩⟩
 rw[QK];simp -dsimp only[↓evA,evB,Qu,Tryz.func21,Tryz.f21,QIK,Qxv,TP,TZ,Nat.reduceAdd,Nat.reduceMul,Nat.reduceBEq,Nat.reduceLeDiff,Nat.reduceLT];apply Ve o a3;intro o a3;simp -dsimp +contextual (maxSteps:=100000000) only[↓evA,eZ,Nat.reduceAdd,Nat.reduceMul,Nat.reduceBEq,Nat.reduceLeDiff,Nat.reduceLT,Qb8,Qgi,Qhk]
 try simp only[XM,eY]
 all_goals rfl
theorem Qml(s){R1 r R2 a}[H1:EncR VN R1 r][H2:EncL Q6 R2 a]:CP T (n+12) 21 [.agg R1,.imm 9 R2,.i .i64 s]=(Qb9 r a s).map fun r=>.own 2 (r.map Qcq):=by
 rcases H1,H2 with⟨⟨rfl⟩,⟨rfl⟩⟩
 rw[Qm];simp -dsimp +contextual (maxSteps:=100000000) only[↓evA,eZ,Nat.reduceAdd,Nat.reduceMul,Nat.reduceBEq,Nat.reduceLeDiff,Nat.reduceLT,Tryz.func21,Tryz.f21,QIK,Qxv,Qh9]
 try simp only[Qb9,eY]
 all_goals first|rfl|(simp +contextual only[evN]<;>rfl)
theorem QiE(a2 a3){R1 r R2 o R3 a}[H1:EncR VN R1 r][H2:EncL Qcq R2 o][H3:EncL Q6 R3 a]:LP T (n+9) 22 3 (frm [(2,.ptr 0 0 0),(5,.sl 1),(9,.imm 9 R3),(10,.i .i64 a2),(11,.i .i64 a3)]) [some (Ent.box R1),some (Ent.lst 2 R2)] =
  (run (XO r a a2) (o,a3)).map (fun(zr:(List Hit))=>(XE.exit 0,frm [(5,.sl 0)],[some (Ent.lst 2 (zr.map Qcq))])):=by
 rcases H1,H2,H3 with⟨⟨rfl⟩,⟨rfl⟩,⟨rfl⟩⟩
 rw[QK];simp -dsimp only[↓evA,evB,Qu,Tryz.func22,Tryz.f22,QIX,QvJ,TP,TZ,Nat.reduceAdd,Nat.reduceMul,Nat.reduceBEq,Nat.reduceLeDiff,Nat.reduceLT];apply Ve o a3;intro o a3;simp -dsimp +contextual (maxSteps:=100000000) only[↓evA,eZ,Nat.reduceAdd,Nat.reduceMul,Nat.reduceBEq,Nat.reduceLeDiff,Nat.reduceLT,Qhk]
 try simp only[XO,eY]
 all_goals rfl
theorem Qmw{R1 r R2 a}[H1:EncR VN R1 r][H2:EncL Q6 R2 a]:CP T (n+10) 22 [.agg R1,.imm 9 R2]=(Qb2 r a).map fun r=>.own 2 (r.map Qcq):=by
 rcases H1,H2 with⟨⟨rfl⟩,⟨rfl⟩⟩
 rw[Qm];simp -dsimp +contextual (maxSteps:=100000000) only[↓evA,eZ,Nat.reduceAdd,Nat.reduceMul,Nat.reduceBEq,Nat.reduceLeDiff,Nat.reduceLT,Tryz.func22,Tryz.f22,QIX,QvJ,QiE]
 try simp only[Qb2,eY]
 all_goals first|rfl|(simp +contextual only[evN]<;>rfl)
theorem QfK(a a2){R1 s R2 s2}[H1:EncL Qcq R1 s][H2:EncL Qcq R2 s2]:LP T (n+1) 84 4 (frm [(0,.imm 2 R1),(1,.imm 2 R2),(12,.i .i64 a),(13,.i .i64 a2)]) [] =
  Qbe (run (VV s s2 a) a2) (fun(zr:Bool)=>(XE.ret,frm [(4,.b zr)],[])) (fun(zr:Unit)=>(XE.exit 0,frm [],[])):=by
 rcases H1,H2 with⟨⟨rfl⟩,⟨rfl⟩⟩
 rw[QK];simp -dsimp only[↓evA,evB,Qu,Tryz.func84,Tryz.f84,QLh,QvN,TP,TZ,Nat.reduceAdd,Nat.reduceMul,Nat.reduceBEq,Nat.reduceLeDiff,Nat.reduceLT];apply QP a2;intro a2;simp -dsimp +contextual only[↓evA,eZ,Nat.reduceAdd,Nat.reduceMul,Nat.reduceBEq,Nat.reduceLeDiff,Nat.reduceLT]
 try simp only[VV,eY]
 all_goals rfl
theorem QhB{R1 s R2 s2}[H1:EncL Qcq R1 s][H2:EncL Qcq R2 s2]:CP T (n+2) 84 [.imm 2 R1,.imm 2 R2]=(J0 s s2).map fun r=>.b r:=by
 rcases H1,H2 with⟨⟨rfl⟩,⟨rfl⟩⟩
 rw[Qm];simp -dsimp +contextual only[↓evA,eZ,Nat.reduceAdd,Nat.reduceMul,Nat.reduceBEq,Nat.reduceLeDiff,Nat.reduceLT,Tryz.func84,Tryz.f84,QLh,QvN,QfK]
 try simp only[J0,eY]
 all_goals rfl
theorem Qjv{R1 a R2 b}[H1:EncL Qcq R1 a][H2:EncL Qcq R2 b]:CP T (n+3) 23 [.imm 2 R1,.imm 2 R2]=(VO a b).map fun r=>.b r:=by
 rcases H1,H2 with⟨⟨rfl⟩,⟨rfl⟩⟩
 rw[Qm];simp -dsimp +contextual only[↓evA,eZ,Nat.reduceAdd,Nat.reduceMul,Nat.reduceBEq,Nat.reduceLeDiff,Nat.reduceLT,Tryz.func23,Tryz.f23,QSB,Qy9,QhB]
 try simp only[VO,eY]
 all_goals rfl
theorem QfN(s a2 a3){R1 r R2 o R3 a}[H1:EncR VN R1 r][H2:EncL Qj R2 o][H3:EncL Q6 R3 a]:LP T (n+11) 24 3 (frm [(2,.i .i64 s),(3,.ptr 0 0 0),(7,.sl 1),(11,.imm 9 R3),(12,.i .i64 a2),(13,.i .i64 a3)]) [some (Ent.box R1),some (Ent.lst 1 R2)] =
  (run (XJ s r a a2) (o,a3)).map (fun(zr:(List Int))=>(XE.exit 0,frm [(7,.sl 0)],[some (Ent.lst 1 (zr.map Qj))])):=by
 rcases H1,H2,H3 with⟨⟨rfl⟩,⟨rfl⟩,⟨rfl⟩⟩
 rw[QK];simp -dsimp only[↓evA,evB,Qu,Tryz.func24,Tryz.f24,QLK,Qyi,TP,TZ,Nat.reduceAdd,Nat.reduceMul,Nat.reduceBEq,Nat.reduceLeDiff,Nat.reduceLT];apply Ve o a3;intro o a3;simp -dsimp +contextual (maxSteps:=100000000) only[↓evA,eZ,Nat.reduceAdd,Nat.reduceMul,Nat.reduceBEq,Nat.reduceLeDiff,Nat.reduceLT,Qb8,Qgi]
 try simp only[XJ,eY]
 all_goals rfl
theorem QhD(s){R1 r R2 a}[H1:EncR VN R1 r][H2:EncL Q6 R2 a]:CP T (n+12) 24 [.agg R1,.imm 9 R2,.i .i64 s]=(Z0 r a s).map fun r=>.own 1 (r.map Qj):=by
 rcases H1,H2 with⟨⟨rfl⟩,⟨rfl⟩⟩
 rw[Qm];simp -dsimp +contextual (maxSteps:=100000000) only[↓evA,eZ,Nat.reduceAdd,Nat.reduceMul,Nat.reduceBEq,Nat.reduceLeDiff,Nat.reduceLT,Tryz.func24,Tryz.f24,QLK,Qyi,QfN]
 try simp only[Z0,eY]
 all_goals first|rfl|(simp +contextual only[evN]<;>rfl)
theorem QhX(a i){R1 l}[H1:EncL Qj R1 l]:LP T (n+1) 25 2 (frm [(0,.imm 1 R1),(1,.i .i64 a),(5,.i .i64 i)]) [] =
  Qbe (run (JW l a) i) (fun(zr:Bool)=>(XE.ret,frm [(4,.b zr)],[])) (fun(zr:Unit)=>(XE.exit 0,frm [],[])):=by
 obtain⟨rfl⟩:=H1;rw[QK];simp -dsimp only[↓evA,evB,Qu,Tryz.func25,Tryz.f25,QHG,Qyx,TP,TZ,Nat.reduceAdd,Nat.reduceMul,Nat.reduceBEq,Nat.reduceLeDiff,Nat.reduceLT];apply QP i;intro i;simp -dsimp +contextual only[↓evA,eZ,Nat.reduceAdd,Nat.reduceMul,Nat.reduceBEq,Nat.reduceLeDiff,Nat.reduceLT]
 try simp only[JW,eY]
 all_goals rfl
theorem QkN(a){R1 l}[H1:EncL Qj R1 l]:CP T (n+2) 25 [.imm 1 R1,.i .i64 a]=(Qbi l a).map fun r=>.b r:=by
 obtain⟨rfl⟩:=H1;rw[Qm];simp -dsimp +contextual only[↓evA,eZ,Nat.reduceAdd,Nat.reduceMul,Nat.reduceBEq,Nat.reduceLeDiff,Nat.reduceLT,Tryz.func25,Tryz.f25,QHG,Qyx,QhX]
 try simp only[Qbi,eY]
 all_goals rfl
theorem Qlp{R1 c}[H1:EncR Qw R1 c]:CA T (n+17) 85 [some (Ent.box R1)] [.ptr 0 0 0]=(Qb7 c).map fun r=>(.agg [.i .i64 r.2.No,.sl 1,.sl 2,.sl 3,.sl 4,.sl 5,.sl 6,.sl 7,.i .i64 r.2.Now],[some (Ent.box (Qw r.1)),some (Ent.lst 8 (r.2.Finds.map QX)),some (Ent.lst 3 (r.2.Secrets.map Xl)),some (Ent.lst 3 (r.2.Slots.map VM)),some (Ent.lst 5 (r.2.Claims.map Vj)),some (Ent.lst 4 (r.2.Trials.map Jx)),some (Ent.lst 5 (r.2.Chain.map J5)),some (Ent.lst 4 (r.2.Book.map Jd))]):=by
 obtain⟨rfl⟩:=H1;rw[QaJ];simp -dsimp +contextual (maxSteps:=100000000) only[↓evA,eZ,Nat.reduceAdd,Nat.reduceMul,Nat.reduceBEq,Nat.reduceLeDiff,Nat.reduceLT,Tryz.func85,Tryz.f85,QPB,Qz4,srt,Qfw,Qgv,QeR,Qo,Qdx,Qf8,Qfz]
 try simp only[Qb7,eY]
 all_goals rfl
theorem QfT{R1 c}[H1:EncL QbJ R1 c]:CP T (n+18) 26 [.imm 1 R1]=(JG c).map fun r=>.tup [.agg (X8 r.1),.i .i64 r.2]:=by
 obtain⟨rfl⟩:=H1;rw[Qm];simp -dsimp +contextual (maxSteps:=100000000) only[↓evA,eZ,Nat.reduceAdd,Nat.reduceMul,Nat.reduceBEq,Nat.reduceLeDiff,Nat.reduceLT,Tryz.func26,Tryz.f26,QQu,QAs,srt,Qe7,Qlp,Qo]
 try simp only[JG,eY]
 try simp only[List.contains_nil,Bool.not_false,Bool.and_true,VA,List.length_append,List.length_cons,List.length_nil,Nat.zero_add,VC,VT]
 all_goals rfl
theorem QhW{R1 c}[H1:EncL QbJ R1 c]:CA T (n+19) 86 [] [.imm 1 R1]=(Z3 c).map fun r=>(.tup [.agg (VN r.1),.imm 9 (r.2.map Q6)],[]):=by
 obtain⟨rfl⟩:=H1;rw[QaJ];simp -dsimp +contextual (maxSteps:=100000000) only[↓evA,eZ,Nat.reduceAdd,Nat.reduceMul,Nat.reduceBEq,Nat.reduceLeDiff,Nat.reduceLT,Tryz.func86,Tryz.f86,QRM,QzF,srt,Qdy]
 try simp only[Z3,eY]
 all_goals rfl
theorem QhJ(i){R1 a R2 o}[H1:EncR Q6 R1 a][H2:EncL QX R2 o]:LP T (n+3) 221 3 (frm [(1,.ptr 0 0 0),(3,.sl 1),(4,.i .i64 i)]) [some (Ent.box R1),some (Ent.lst 8 R2)] =
  (run (JV a) (o,i)).map (fun(zr:(List Find))=>(XE.exit 0,frm [(3,.sl 0)],[some (Ent.lst 8 (zr.map QX))])):=by
 rcases H1,H2 with⟨⟨rfl⟩,⟨rfl⟩⟩
 rw[QK];simp -dsimp only[↓evA,evB,Qu,Tryz.func221,Tryz.f221,QBH,Qqr,TP,TZ,Nat.reduceAdd,Nat.reduceMul,Nat.reduceBEq,Nat.reduceLeDiff,Nat.reduceLT];apply Ve o i;intro o i;simp -dsimp +contextual (maxSteps:=100000000) only[↓evA,eZ,Nat.reduceAdd,Nat.reduceMul,Nat.reduceBEq,Nat.reduceLeDiff,Nat.reduceLT,Qbm]
 try simp only[JV,eY]
 all_goals rfl
theorem Qkw{R1 a}[H1:EncR Q6 R1 a]:CP T (n+4) 221 [.agg R1]=(Qbt a).map fun r=>.own 8 (r.map QX):=by
 obtain⟨rfl⟩:=H1;rw[Qm];simp -dsimp +contextual (maxSteps:=100000000) only[↓evA,eZ,Nat.reduceAdd,Nat.reduceMul,Nat.reduceBEq,Nat.reduceLeDiff,Nat.reduceLT,Tryz.func221,Tryz.f221,QBH,Qqr,QhJ]
 try simp only[Qbt,eY]
 all_goals first|rfl|(simp +contextual only[evN]<;>rfl)
theorem QkH(l2 a i){R1 l}[H1:EncL Qj R1 l]:LP T (n+2) 293 2 (frm [(0,.imm 1 R1),(1,.i .i64 l2),(2,.i .i64 a),(7,.i .i64 i)]) [] =
  Qbe (run (JM l l2 a) i) (fun(zr:Bool)=>(XE.ret,frm [(6,.b zr)],[])) (fun(zr:Unit)=>(XE.exit 0,frm [],[])):=by
 obtain⟨rfl⟩:=H1;rw[QK];simp -dsimp only[↓evA,evB,Qu,Tryz.func293,Tryz.f293,QCt,QpX,TP,TZ,Nat.reduceAdd,Nat.reduceMul,Nat.reduceBEq,Nat.reduceLeDiff,Nat.reduceLT];apply QP i;intro i;simp -dsimp +contextual only[↓evA,eZ,Nat.reduceAdd,Nat.reduceMul,Nat.reduceBEq,Nat.reduceLeDiff,Nat.reduceLT,QM]
 try simp only[JM,eY]
 all_goals rfl
theorem QnZ(l2 a){R1 l}[H1:EncL Qj R1 l]:CP T (n+3) 293 [.imm 1 R1,.i .i64 l2,.i .i64 a]=(QcG l l2 a).map fun r=>.b r:=by
 obtain⟨rfl⟩:=H1;rw[Qm];simp -dsimp +contextual only[↓evA,eZ,Nat.reduceAdd,Nat.reduceMul,Nat.reduceBEq,Nat.reduceLeDiff,Nat.reduceLT,Tryz.func293,Tryz.f293,QCt,QpX,QkH]
 try simp only[QcG,eY]
 all_goals rfl
theorem QmO{R1 s}[H1:EncR Qiq R1 s]:CP T (n+2) 294 [.agg R1]=(Qee s).map fun r=>.b r:=by
 obtain⟨rfl⟩:=H1;rw[Qm];simp -dsimp +contextual only[↓evA,eZ,Nat.reduceAdd,Nat.reduceMul,Nat.reduceBEq,Nat.reduceLeDiff,Nat.reduceLT,Tryz.func294,Tryz.f294,QJ6,QsG,QM]
 try simp only[Qee,eY]
 all_goals rfl
theorem Qku{R1 r}[H1:EncR VN R1 r]:CP T (n+4) 285 [.agg R1]=(Qbn r).map fun r=>.b r:=by
 obtain⟨rfl⟩:=H1;rw[Qm];simp -dsimp +contextual only[↓evA,eZ,Nat.reduceAdd,Nat.reduceMul,Nat.reduceBEq,Nat.reduceLeDiff,Nat.reduceLT,Tryz.func285,Tryz.f285,QKg,Qs0,QM,QnZ,QmO]
 try simp only[Qbn,eY]
 all_goals rfl
theorem QmJ{R1 r R2 f}[H1:EncR VN R1 r][H2:EncR QX R2 f]:CP T (n+5) 268 [.agg R1,.agg R2]=(Qeq r f).map fun r=>.s r:=by
 rcases H1,H2 with⟨⟨rfl⟩,⟨rfl⟩⟩
 rw[Qm];simp -dsimp +contextual only[↓evA,eZ,Nat.reduceAdd,Nat.reduceMul,Nat.reduceBEq,Nat.reduceLeDiff,Nat.reduceLT,Tryz.func268,Tryz.f268,QIb,Qtv,Qku,QcM,Qiw,QM]
 try simp only[Qeq,eY]
 all_goals rfl
theorem Qos{R1 r R2 f}[H1:EncR VN R1 r][H2:EncR QX R2 f]:CP T (n+6) 222 [.agg R1,.agg R2]=(Qdz r f).map fun r=>.b r:=by
 rcases H1,H2 with⟨⟨rfl⟩,⟨rfl⟩⟩
 rw[Qm];simp -dsimp +contextual only[↓evA,eZ,Nat.reduceAdd,Nat.reduceMul,Nat.reduceBEq,Nat.reduceLeDiff,Nat.reduceLT,Tryz.func222,Tryz.f222,QH9,QtU,QmJ]
 try simp only[Qdz,eY]
 all_goals rfl
theorem Qik(i){R1 r R2 a R3 o R4 f}[H1:EncR VN R1 r][H2:EncR Q6 R2 a][H3:EncL Qcq R3 o][H4:EncL QX R4 f]:LP T (n+7) 164 4 (frm [(2,.ptr 0 0 0),(3,.ptr 1 0 0),(5,.sl 2),(6,.sl 3),(7,.i .i64 i)]) [some (Ent.box R1),some (Ent.box R2),some (Ent.lst 2 R3),some (Ent.lst 8 R4)] =
  (run (Zl r a f) (o,i)).map (fun(zr:(List Hit))=>(XE.exit 0,frm [(5,.sl 0)],[some (Ent.lst 2 (zr.map Qcq))])):=by
 rcases H1,H2,H3,H4 with⟨⟨rfl⟩,⟨rfl⟩,⟨rfl⟩,⟨rfl⟩⟩
 rw[QK];simp -dsimp only[↓evA,evB,Qu,Tryz.func164,Tryz.f164,QBF,QpJ,TP,TZ,Nat.reduceAdd,Nat.reduceMul,Nat.reduceBEq,Nat.reduceLeDiff,Nat.reduceLT];apply Ve o i;intro o i;simp -dsimp +contextual (maxSteps:=100000000) only[↓evA,eZ,Nat.reduceAdd,Nat.reduceMul,Nat.reduceBEq,Nat.reduceLeDiff,Nat.reduceLT,Qos]
 try simp only[Zl,eY]
 all_goals rfl
theorem Ql5{R1 r R2 a}[H1:EncR VN R1 r][H2:EncR Q6 R2 a]:CP T (n+8) 164 [.agg R1,.agg R2]=(Qcc r a).map fun r=>.own 2 (r.map Qcq):=by
 rcases H1,H2 with⟨⟨rfl⟩,⟨rfl⟩⟩
 rw[Qm];simp -dsimp +contextual (maxSteps:=100000000) only[↓evA,eZ,Nat.reduceAdd,Nat.reduceMul,Nat.reduceBEq,Nat.reduceLeDiff,Nat.reduceLT,Tryz.func164,Tryz.f164,QBF,QpJ,Qkw,Qik]
 try simp only[Qcc,eY]
 all_goals first|rfl|(simp +contextual only[evN]<;>rfl)
theorem QiU(i){R1 a R2 r R3 o}[H1:EncL Q6 R1 a][H2:EncR VN R2 r][H3:EncL Qcq R3 o]:LP T (n+9) 87 3 (frm [(1,.imm 9 R1),(2,.ptr 0 0 0),(5,.sl 1),(6,.i .i64 i)]) [some (Ent.box R2),some (Ent.lst 2 R3)] =
  (run (Zn a r) (o,i)).map (fun(zr:(List Hit))=>(XE.exit 0,frm [(5,.sl 0)],[some (Ent.lst 2 (zr.map Qcq))])):=by
 rcases H1,H2,H3 with⟨⟨rfl⟩,⟨rfl⟩,⟨rfl⟩⟩
 rw[QK];simp -dsimp only[↓evA,evB,Qu,Tryz.func87,Tryz.f87,QLR,Qxf,TP,TZ,Nat.reduceAdd,Nat.reduceMul,Nat.reduceBEq,Nat.reduceLeDiff,Nat.reduceLT];apply Ve o i;intro o i;simp -dsimp +contextual (maxSteps:=100000000) only[↓evA,eZ,Nat.reduceAdd,Nat.reduceMul,Nat.reduceBEq,Nat.reduceLeDiff,Nat.reduceLT,Ql5]
 try simp only[Zn,eY]
 all_goals rfl
theorem QmA{R1 r R2 a}[H1:EncR VN R1 r][H2:EncL Q6 R2 a]:CP T (n+10) 87 [.agg R1,.imm 9 R2]=(Qco r a).map fun r=>.own 2 (r.map Qcq):=by
 rcases H1,H2 with⟨⟨rfl⟩,⟨rfl⟩⟩
 rw[Qm];simp -dsimp +contextual (maxSteps:=100000000) only[↓evA,eZ,Nat.reduceAdd,Nat.reduceMul,Nat.reduceBEq,Nat.reduceLeDiff,Nat.reduceLT,Tryz.func87,Tryz.f87,QLR,Qxf,QiU]
 try simp only[Qco,eY]
 all_goals first|rfl|(simp +contextual only[evN]<;>rfl)
theorem Qgn{R1 c}[H1:EncL QbJ R1 c]:CA T (n+20) 27 [] [.imm 1 R1]=(J8 c).map fun r=>(.tup [.imm 2 (r.1.map Qcq),.imm 2 (r.2.map Qcq)],[]):=by
 obtain⟨rfl⟩:=H1;rw[QaJ];simp -dsimp +contextual (maxSteps:=100000000) only[↓evA,eZ,Nat.reduceAdd,Nat.reduceMul,Nat.reduceBEq,Nat.reduceLeDiff,Nat.reduceLT,Tryz.func27,Tryz.f27,QSw,QzI,srt,QhW,QmA,Qe7,VQ]
 try simp only[J8,eY]
 all_goals rfl
end Go.Proofs.YtonidbheohhgdaaGreat
