import Derived.Test.YtonidbheohhgdaaGreatEq2
namespace Go.Proofs.YtonidbheohhgdaaGreat
open Go Go.Proofs Go.Proofs.YtonidbheohhgdaaGreat.Am
set_option maxHeartbeats 4000000
set_option linter.unusedVariables false
set_option linter.unusedSimpArgs false
set_option linter.defProp false
set_option maxRecDepth 100000
variable(n:Nat)
theorem Qdz{R1 c}[H1:EncL QbK R1 c]:CA T (n+18) 20 [] [.imm 1 R1]=(J0 c).map fun r=>(.tup [.agg (VN r.1),.imm 9 (r.2.1.map Q6),.i .i64 r.2.2],[]):=by
 obtain⟨rfl⟩:=H1;rw[QaG];simp -dsimp +contextual (maxSteps:=100000000) only[↓evA,eZ,Nat.reduceAdd,Nat.reduceMul,Nat.reduceBEq,Nat.reduceLeDiff,Nat.reduceLT,Tryz.func20,Tryz.f20,QG0,QxQ,srt,Qfj,Qp,Qoy,VR,Qoa,QfR]
 try simp only[J0,eY]
 all_goals rfl
theorem Qi1(c){R1 a}[H1:EncR VM R1 a]:CP T (n+1) 139 [.agg R1,.iptr 1 [[.i .i64 c]] 0 0]=(Qby a c).map fun r=>.b r:=by
 obtain⟨rfl⟩:=H1;rw[Qm];simp -dsimp +contextual only[↓evA,eZ,Nat.reduceAdd,Nat.reduceMul,Nat.reduceBEq,Nat.reduceLeDiff,Nat.reduceLT,Tryz.func139,Tryz.f139,QJ6,QsW]
 try simp only[Qby,eY]
 all_goals rfl
theorem Z8(f a a2){R1 s}[H1:EncL VM R1 s]:LP T (n+2) 138 2 (frm [(0,.imm 3 R1),(1,.clo 139 [.iptr 1 [[.i .i64 f]] 0 0]),(7,.i .i64 a),(8,.i .i64 a2)]) [] =
  Qbe (run (Qx s f a) a2) (fun(zr:Int)=>(XE.ret,frm [(4,.i .i64 zr)],[])) (fun(zr:Unit)=>(XE.exit 0,frm [],[])):=by
 obtain⟨rfl⟩:=H1;rw[QK];simp -dsimp only[↓evA,evB,Qu,Tryz.func138,Tryz.f138,QBF,Qqj,TP,TZ,Nat.reduceAdd,Nat.reduceMul,Nat.reduceBEq,Nat.reduceLeDiff,Nat.reduceLT];apply QM a2;intro a2;simp -dsimp +contextual only[↓evA,eZ,Nat.reduceAdd,Nat.reduceMul,Nat.reduceBEq,Nat.reduceLeDiff,Nat.reduceLT,Qi1]
 try simp only[Qx,eY]
 all_goals rfl
theorem QaE(c){R1 s}[H1:EncL VM R1 s]:CP T (n+3) 138 [.imm 3 R1,.clo 139 [.iptr 1 [[.i .i64 c]] 0 0]]=(Ve s c).map fun r=>.i .i64 r:=by
 obtain⟨rfl⟩:=H1;rw[Qm];simp -dsimp +contextual only[↓evA,eZ,Nat.reduceAdd,Nat.reduceMul,Nat.reduceBEq,Nat.reduceLeDiff,Nat.reduceLT,Tryz.func138,Tryz.f138,QBF,Qqj,Z8]
 try simp only[Ve,eY]
 all_goals rfl
theorem QkG(a){R1 l}[H1:EncL VM R1 l]:CP T (n+4) 64 [.imm 3 R1,.i .i64 a]=(VQ l a).map fun r=>.i .i64 r:=by
 obtain⟨rfl⟩:=H1;rw[Qm];simp -dsimp +contextual only[↓evA,eZ,Nat.reduceAdd,Nat.reduceMul,Nat.reduceBEq,Nat.reduceLeDiff,Nat.reduceLT,Tryz.func64,Tryz.f64,QRg,QzG,QaE]
 try simp only[VQ,eY]
 all_goals rfl
theorem QfX(a3 a4){R1 a R2 o R3 a2}[H1:EncR Q6 R1 a][H2:EncL QX R2 o][H3:EncL QX R3 a2]:LP T (n+5) 89 3 (frm [(1,.ptr 0 0 0),(3,.sl 1),(8,.imm 8 R3),(9,.i .i64 a3),(10,.i .i64 a4)]) [some (Ent.box R1),some (Ent.lst 8 R2)] =
  (run (X2 a a2 a3) (o,a4)).map (fun(zr:(List Find))=>(XE.exit 0,frm [(3,.sl 0)],[some (Ent.lst 8 (zr.map QX))])):=by
 rcases H1,H2,H3 with⟨⟨rfl⟩,⟨rfl⟩,⟨rfl⟩⟩
 rw[QK];simp -dsimp only[↓evA,evB,Qu,Tryz.func89,Tryz.f89,QLX,Qx8,TP,TZ,Nat.reduceAdd,Nat.reduceMul,Nat.reduceBEq,Nat.reduceLeDiff,Nat.reduceLT];apply Vc o a4;intro o a4;simp -dsimp +contextual (maxSteps:=100000000) only[↓evA,eZ,Nat.reduceAdd,Nat.reduceMul,Nat.reduceBEq,Nat.reduceLeDiff,Nat.reduceLT,QkG]
 try simp only[X2,eY]
 all_goals rfl
theorem Qd5{R1 a}[H1:EncR Q6 R1 a]:CP T (n+6) 89 [.agg R1]=(Zl a).map fun r=>.own 8 (r.map QX):=by
 obtain⟨rfl⟩:=H1;rw[Qm];simp -dsimp +contextual (maxSteps:=100000000) only[↓evA,eZ,Nat.reduceAdd,Nat.reduceMul,Nat.reduceBEq,Nat.reduceLeDiff,Nat.reduceLT,Tryz.func89,Tryz.f89,QLX,Qx8,QfX]
 try simp only[Zl,eY]
 all_goals first|rfl|(simp +contextual only[evN]<;>rfl)
theorem Ze(a l a2):CP T (n+1) 33 [.i .i64 a,.i .i64 l,.i .i64 a2]=(Qb a l a2).map fun r=>.b r:=by
 rw[Qm];simp -dsimp +contextual only[↓evA,eZ,Nat.reduceAdd,Nat.reduceMul,Nat.reduceBEq,Nat.reduceLeDiff,Nat.reduceLT,Tryz.func33,Tryz.f33,QSG,Qz2]
 try simp only[Qb,eY]
 all_goals rfl
theorem QlF{R1 a}[H1:EncR Qc3 R1 a]:CP T (n+2) 170 [.agg R1]=(JJ a).map fun r=>.b r:=by
 obtain⟨rfl⟩:=H1;rw[Qm];simp -dsimp +contextual only[↓evA,eZ,Nat.reduceAdd,Nat.reduceMul,Nat.reduceBEq,Nat.reduceLeDiff,Nat.reduceLT,Tryz.func170,Tryz.f170,QLd,Qts,Ze]
 try simp only[JJ,eY]
 all_goals rfl
theorem Qhg{R1 f}[H1:EncR QX R1 f]:CP T (n+3) 94 [.agg R1]=(Xm f).map fun r=>.b r:=by
 obtain⟨rfl⟩:=H1;rw[Qm];simp -dsimp +contextual only[↓evA,eZ,Nat.reduceAdd,Nat.reduceMul,Nat.reduceBEq,Nat.reduceLeDiff,Nat.reduceLT,Tryz.func94,Tryz.f94,QRy,QzB,QlF,Ze]
 try simp only[Xm,eY]
 all_goals rfl
theorem QhE(a2 a3){R1 l R2 a}[H1:EncL QX R1 l][H2:EncL QX R2 a]:LP T (n+4) 34 4 (frm [(0,.imm 8 R1),(8,.imm 8 R2),(9,.i .i64 a2),(10,.i .i64 a3)]) [] =
  Qbe (run (QD l a a2) a3) (fun(zr:Bool)=>(XE.ret,frm [(2,.b zr)],[])) (fun(zr:Unit)=>(XE.exit 0,frm [],[])):=by
 rcases H1,H2 with⟨⟨rfl⟩,⟨rfl⟩⟩
 rw[QK];simp -dsimp only[↓evA,evB,Qu,Tryz.func34,Tryz.f34,QLQ,QwC,TP,TZ,Nat.reduceAdd,Nat.reduceMul,Nat.reduceBEq,Nat.reduceLeDiff,Nat.reduceLT];apply QM a3;intro a3;simp -dsimp +contextual only[↓evA,eZ,Nat.reduceAdd,Nat.reduceMul,Nat.reduceBEq,Nat.reduceLeDiff,Nat.reduceLT,Qhg]
 try simp only[QD,eY]
 all_goals rfl
theorem Qkr{R1 l}[H1:EncL QX R1 l]:CP T (n+5) 34 [.imm 8 R1]=(Q2 l).map fun r=>.b r:=by
 obtain⟨rfl⟩:=H1;rw[Qm];simp -dsimp +contextual only[↓evA,eZ,Nat.reduceAdd,Nat.reduceMul,Nat.reduceBEq,Nat.reduceLeDiff,Nat.reduceLT,Tryz.func34,Tryz.f34,QLQ,QwC,QhE]
 try simp only[Q2,eY]
 all_goals rfl
theorem QrB(p q):CP T (n+2) 270 [.i .i64 p,.i .i64 q]=(Qb2 p q).map fun r=>.i .i64 r:=by
 rw[Qm];simp -dsimp +contextual only[↓evA,eZ,Nat.reduceAdd,Nat.reduceMul,Nat.reduceBEq,Nat.reduceLeDiff,Nat.reduceLT,Tryz.func270,Tryz.f270,QJT,QsI,Ze]
 try simp only[Qb2,eY]
 all_goals rfl
theorem QpW(a v):CP T (n+3) 227 [.i .i64 a,.i .i64 v]=(QgH a v).map fun r=>.i .i64 r:=by
 rw[Qm];simp -dsimp +contextual only[↓evA,eZ,Nat.reduceAdd,Nat.reduceMul,Nat.reduceBEq,Nat.reduceLeDiff,Nat.reduceLT,Tryz.func227,Tryz.f227,QNe,Qsf,QrB]
 try simp only[QgH,eY]
 all_goals rfl
theorem QlR(a a3 a4){R1 a2}[H1:EncL Qi R1 a2]:LP T (n+4) 171 3 (frm [(3,.i .i64 a),(6,.imm 1 R1),(7,.i .i64 a3),(8,.i .i64 a4)]) [] =
  (run (Qcq a2 a3) (a,a4)).map (fun(zr:Int)=>(XE.exit 0,frm [(3,.i .i64 zr)],[])):=by
 obtain⟨rfl⟩:=H1;rw[QK];simp -dsimp only[↓evA,evB,Qu,Tryz.func171,Tryz.f171,QCn,Qqo,TP,TZ,Nat.reduceAdd,Nat.reduceMul,Nat.reduceBEq,Nat.reduceLeDiff,Nat.reduceLT];apply Vc a a4;intro a a4;simp -dsimp +contextual only[↓evA,eZ,Nat.reduceAdd,Nat.reduceMul,Nat.reduceBEq,Nat.reduceLeDiff,Nat.reduceLT,QpW]
 try simp only[Qcq,eY]
 all_goals rfl
theorem Qpa{R1 v}[H1:EncL Qi R1 v]:CP T (n+5) 171 [.imm 1 R1]=(QbX v).map fun r=>.i .i64 r:=by
 obtain⟨rfl⟩:=H1;rw[Qm];simp -dsimp +contextual only[↓evA,eZ,Nat.reduceAdd,Nat.reduceMul,Nat.reduceBEq,Nat.reduceLeDiff,Nat.reduceLT,Tryz.func171,Tryz.f171,QCn,Qqo,QlR]
 try simp only[QbX,eY]
 all_goals rfl
theorem Qkk(s k c s2):CP T (n+6) 219 [.i .i64 s,.i .i64 k,.i .i64 c,.i .i64 s2]=(QbQ s k c s2).map fun r=>.i .i64 r:=by
 rw[Qm];simp -dsimp +contextual only[↓evA,eZ,Nat.reduceAdd,Nat.reduceMul,Nat.reduceBEq,Nat.reduceLeDiff,Nat.reduceLT,Tryz.func219,Tryz.f219,QL9,Qs2,Qpa]
 try simp only[QbQ,eY]
 all_goals rfl
theorem QmI(s){R1 a}[H1:EncR Qc3 R1 a]:CP T (n+7) 165 [.agg R1,.i .i64 s]=(QcU a s).map fun r=>.i .i64 r:=by
 obtain⟨rfl⟩:=H1;rw[Qm];simp -dsimp +contextual only[↓evA,eZ,Nat.reduceAdd,Nat.reduceMul,Nat.reduceBEq,Nat.reduceLeDiff,Nat.reduceLT,Tryz.func165,Tryz.f165,QM6,QtN,Qkk]
 try simp only[QcU,eY]
 all_goals rfl
theorem Qfd(s2 a2 a3){R1 s R2 a}[H1:EncL QeB R1 s][H2:EncL QeB R2 a]:LP T (n+1) 223 3 (frm [(0,.imm 1 R1),(3,.i .i64 s2),(9,.imm 1 R2),(10,.i .i64 a2),(11,.i .i64 a3)]) [] =
  (run (Vd s a a2) (s2,a3)).map (fun(zr:Int)=>(XE.exit 0,frm [(0,.imm 1 (s.map QeB)),(3,.i .i64 zr)],[])):=by
 rcases H1,H2 with⟨⟨rfl⟩,⟨rfl⟩⟩
 rw[QK];simp -dsimp only[↓evA,evB,Qu,Tryz.func223,Tryz.f223,Qyj,Qni,TP,TZ,Nat.reduceAdd,Nat.reduceMul,Nat.reduceBEq,Nat.reduceLeDiff,Nat.reduceLT];apply Vc s2 a3;intro s2 a3;simp -dsimp +contextual only[↓evA,eZ,Nat.reduceAdd,Nat.reduceMul,Nat.reduceBEq,Nat.reduceLeDiff,Nat.reduceLT]
 try simp only[Vd,eY]
 all_goals rfl
theorem QeY(a3 a4){R1 a R2 a2}[H1:EncL Qi R1 a][H2:EncL QeB R2 a2]:LP T (n+1) 223 11 (frm [(6,.sl 0),(25,.imm 1 R2),(26,.i .i64 a3),(27,.i .i64 a4)]) [some (Ent.lst 1 R1)] =
  (run (VJ a2 a3) (a,a4)).map (fun(zr:(List Int))=>(XE.exit 2,frm [(6,.sl 0)],[some (Ent.lst 1 (zr.map Qi))])):=by
 rcases H1,H2 with⟨⟨rfl⟩,⟨rfl⟩⟩
 rw[QK];simp -dsimp only[↓evA,evB,Qu,Tryz.func223,Tryz.f223,Qyj,Qni,TP,TZ,Nat.reduceAdd,Nat.reduceMul,Nat.reduceBEq,Nat.reduceLeDiff,Nat.reduceLT];apply Vc a a4;intro a a4;simp -dsimp +contextual only[↓evA,eZ,Nat.reduceAdd,Nat.reduceMul,Nat.reduceBEq,Nat.reduceLeDiff,Nat.reduceLT]
 try simp only[VJ,eY]
 all_goals rfl
theorem QgU{R1 s}[H1:EncL QeB R1 s]:CP T (n+2) 223 [.imm 1 R1]=(ZB s).map fun r=>.own 1 (r.map Qi):=by
 obtain⟨rfl⟩:=H1;rw[Qm];simp -dsimp +contextual only[↓evA,eZ,Nat.reduceAdd,Nat.reduceMul,Nat.reduceBEq,Nat.reduceLeDiff,Nat.reduceLT,Tryz.func223,Tryz.f223,Qyj,Qni,QiB,Qfd,QeY]
 try simp only[ZB,eY]
 all_goals first|rfl|(simp +contextual only[evN]<;>rfl)
theorem QcH{R1 a}[H1:EncL Qi R1 a]:CP T (n+3) 166 [.imm 1 R1,.nil]=(Vp a).map fun r=>.own 1 (r.map Qi):=by
 obtain⟨rfl⟩:=H1;rw[Qm];simp -dsimp +contextual only[↓evA,eZ,Nat.reduceAdd,Nat.reduceMul,Nat.reduceBEq,Nat.reduceLeDiff,Nat.reduceLT,Tryz.func166,Tryz.f166,QKo,QtE,srt,QgU]
 try simp only[Vp,eY]
 all_goals first|rfl|(simp +contextual only[evN]<;>rfl)
theorem Qjj(s a2 a3){R1 o R2 a}[H1:EncL Qi R1 o][H2:EncL QX R2 a]:LP T (n+8) 88 5 (frm [(1,.i .i64 s),(5,.sl 0),(13,.imm 8 R2),(14,.i .i64 a2),(15,.i .i64 a3)]) [some (Ent.lst 1 R1)] =
  (run (VS s a a2) (o,a3)).map (fun(zr:(List Int))=>(XE.exit 0,frm [(5,.sl 0)],[some (Ent.lst 1 (zr.map Qi))])):=by
 rcases H1,H2 with⟨⟨rfl⟩,⟨rfl⟩⟩
 rw[QK];simp -dsimp only[↓evA,evB,Qu,Tryz.func88,Tryz.f88,QIQ,Qyk,TP,TZ,Nat.reduceAdd,Nat.reduceMul,Nat.reduceBEq,Nat.reduceLeDiff,Nat.reduceLT];apply Vc o a3;intro o a3;simp -dsimp +contextual only[↓evA,eZ,Nat.reduceAdd,Nat.reduceMul,Nat.reduceBEq,Nat.reduceLeDiff,Nat.reduceLT,QmI]
 try simp only[VS,eY]
 all_goals rfl
theorem Qlg(s){R1 l}[H1:EncL QX R1 l]:CP T (n+9) 88 [.imm 8 R1,.i .i64 s]=(Qcf l s).map fun r=>.own 1 (r.map Qi):=by
 obtain⟨rfl⟩:=H1;rw[Qm];simp -dsimp +contextual only[↓evA,eZ,Nat.reduceAdd,Nat.reduceMul,Nat.reduceBEq,Nat.reduceLeDiff,Nat.reduceLT,Tryz.func88,Tryz.f88,QIQ,Qyk,Qkr,QcH,Qjj]
 try simp only[Qcf,eY]
 all_goals first|rfl|(simp +contextual only[evN]<;>rfl)
theorem Qb3(s){R1 a}[H1:EncR Q6 R1 a]:CP T (n+10) 29 [.agg R1,.i .i64 s]=(V9 a s).map fun r=>.own 1 (r.map Qi):=by
 obtain⟨rfl⟩:=H1;rw[Qm];simp -dsimp +contextual (maxSteps:=100000000) only[↓evA,eZ,Nat.reduceAdd,Nat.reduceMul,Nat.reduceBEq,Nat.reduceLeDiff,Nat.reduceLT,Tryz.func29,Tryz.f29,QQT,QyQ,Qd5,Qlg]
 try simp only[V9,eY]
 all_goals first|rfl|(simp +contextual only[evN]<;>rfl)
theorem QfN(l2 a a3 a4){R1 l R2 a2}[H1:EncL Qi R1 l][H2:EncL Qi R2 a2]:LP T (n+2) 266 2 (frm [(0,.imm 1 R1),(1,.i .i64 l2),(2,.i .i64 a),(9,.imm 1 R2),(10,.i .i64 a3),(11,.i .i64 a4)]) [] =
  Qbe (run (VF l l2 a a2 a3) a4) (fun(zr:Bool)=>(XE.ret,frm [(6,.b zr)],[])) (fun(zr:Unit)=>(XE.exit 0,frm [],[])):=by
 rcases H1,H2 with⟨⟨rfl⟩,⟨rfl⟩⟩
 rw[QK];simp -dsimp only[↓evA,evB,Qu,Tryz.func266,Tryz.f266,QBN,QpT,TP,TZ,Nat.reduceAdd,Nat.reduceMul,Nat.reduceBEq,Nat.reduceLeDiff,Nat.reduceLT];apply QM a4;intro a4;simp -dsimp +contextual only[↓evA,eZ,Nat.reduceAdd,Nat.reduceMul,Nat.reduceBEq,Nat.reduceLeDiff,Nat.reduceLT,Ze]
 try simp only[VF,eY]
 all_goals rfl
theorem QhG(l2 a){R1 l}[H1:EncL Qi R1 l]:CP T (n+3) 266 [.imm 1 R1,.i .i64 l2,.i .i64 a]=(JZ l l2 a).map fun r=>.b r:=by
 obtain⟨rfl⟩:=H1;rw[Qm];simp -dsimp +contextual only[↓evA,eZ,Nat.reduceAdd,Nat.reduceMul,Nat.reduceBEq,Nat.reduceLeDiff,Nat.reduceLT,Tryz.func266,Tryz.f266,QBN,QpT,QfN]
 try simp only[JZ,eY]
 all_goals rfl
theorem QmL{R1 s}[H1:EncR Qiu R1 s]:CP T (n+2) 267 [.agg R1]=(Qeg s).map fun r=>.b r:=by
 obtain⟨rfl⟩:=H1;rw[Qm];simp -dsimp +contextual only[↓evA,eZ,Nat.reduceAdd,Nat.reduceMul,Nat.reduceBEq,Nat.reduceLeDiff,Nat.reduceLT,Tryz.func267,Tryz.f267,QKP,Qt0,Ze]
 try simp only[Qeg,eY]
 all_goals rfl
theorem QfG{R1 r}[H1:EncR VN R1 r]:CP T (n+4) 217 [.agg R1]=(ZD r).map fun r=>.b r:=by
 obtain⟨rfl⟩:=H1;rw[Qm];simp -dsimp +contextual only[↓evA,eZ,Nat.reduceAdd,Nat.reduceMul,Nat.reduceBEq,Nat.reduceLeDiff,Nat.reduceLT,Tryz.func217,Tryz.f217,QM3,QtU,Ze,QhG,QmL]
 try simp only[ZD,eY]
 all_goals rfl
theorem QfO(v a a2){R1 s}[H1:EncL Qi R1 s]:LP T (n+1) 172 2 (frm [(0,.imm 1 R1),(1,.i .i64 v),(7,.i .i64 a),(8,.i .i64 a2)]) [] =
  Qbe (run (XH s v a) a2) (fun(zr:Int)=>(XE.ret,frm [(4,.i .i64 zr)],[])) (fun(zr:Unit)=>(XE.exit 0,frm [],[])):=by
 obtain⟨rfl⟩:=H1;rw[QK];simp -dsimp only[↓evA,evB,Qu,Tryz.func172,Tryz.f172,QBJ,Qqn,TP,TZ,Nat.reduceAdd,Nat.reduceMul,Nat.reduceBEq,Nat.reduceLeDiff,Nat.reduceLT];apply QM a2;intro a2;simp -dsimp +contextual only[↓evA,eZ,Nat.reduceAdd,Nat.reduceMul,Nat.reduceBEq,Nat.reduceLeDiff,Nat.reduceLT]
 try simp only[XH,eY]
 all_goals rfl
theorem QhO(v){R1 s}[H1:EncL Qi R1 s]:CP T (n+2) 172 [.imm 1 R1,.i .i64 v]=(QaZ s v).map fun r=>.i .i64 r:=by
 obtain⟨rfl⟩:=H1;rw[Qm];simp -dsimp +contextual only[↓evA,eZ,Nat.reduceAdd,Nat.reduceMul,Nat.reduceBEq,Nat.reduceLeDiff,Nat.reduceLT,Tryz.func172,Tryz.f172,QBJ,Qqn,QfO]
 try simp only[QaZ,eY]
 all_goals rfl
theorem Qcy(v){R1 s}[H1:EncL Qi R1 s]:CP T (n+3) 98 [.imm 1 R1,.i .i64 v]=(VU s v).map fun r=>.b r:=by
 obtain⟨rfl⟩:=H1;rw[Qm];simp -dsimp +contextual only[↓evA,eZ,Nat.reduceAdd,Nat.reduceMul,Nat.reduceBEq,Nat.reduceLeDiff,Nat.reduceLT,Tryz.func98,Tryz.f98,QOZ,QAn,QhO]
 try simp only[VU,eY]
 all_goals rfl
theorem Qhf(a){R1 l}[H1:EncL Qi R1 l]:CP T (n+4) 218 [.imm 1 R1,.i .i64 a]=(QaR l a).map fun r=>.b r:=by
 obtain⟨rfl⟩:=H1;rw[Qm];simp -dsimp +contextual only[↓evA,eZ,Nat.reduceAdd,Nat.reduceMul,Nat.reduceBEq,Nat.reduceLeDiff,Nat.reduceLT,Tryz.func218,Tryz.f218,QM9,Qt2,Qcy]
 try simp only[QaR,eY]
 all_goals rfl
theorem Qhz(s c s2 a){R1 r R2 o}[H1:EncR VN R1 r][H2:EncL Qi R2 o]:LP T (n+7) 159 8 (frm [(1,.i .i64 s),(2,.ptr 0 0 0),(5,.sl 1),(6,.i .i64 c),(7,.i .i64 s2),(13,.i .i64 a)]) [some (Ent.box R1),some (Ent.lst 1 R2)] =
  (run (JU s r c a) (o,s2)).map (fun(zr:(List Int))=>(XE.exit 2,frm [(1,.i .i64 s),(2,.ptr 0 0 0),(5,.sl 1),(13,.i .i64 a)],[some (Ent.box (VN r)),some (Ent.lst 1 (zr.map Qi))])):=by
 rcases H1,H2 with⟨⟨rfl⟩,⟨rfl⟩⟩
 rw[QK];simp -dsimp only[↓evA,evB,Qu,Tryz.func159,Tryz.f159,Qv3,Qm3,TP,TZ,Nat.reduceAdd,Nat.reduceMul,Nat.reduceBEq,Nat.reduceLeDiff,Nat.reduceLT];apply Vc o s2;intro o s2;simp -dsimp +contextual only[↓evA,eZ,Nat.reduceAdd,Nat.reduceMul,Nat.reduceBEq,Nat.reduceLeDiff,Nat.reduceLT,Qhf,Qkk]
 try simp only[JU,eY]
 all_goals rfl
theorem QhK(s a){R1 r R2 o}[H1:EncR VN R1 r][H2:EncL Qi R2 o]:LP T (n+8) 159 5 (frm [(1,.i .i64 s),(2,.ptr 0 0 0),(5,.sl 1),(13,.i .i64 a)]) [some (Ent.box R1),some (Ent.lst 1 R2)] =
  (run (Xk s r) (o,a)).map (fun(zr:(List Int))=>(XE.exit 0,frm [(5,.sl 0)],[some (Ent.lst 1 (zr.map Qi))])):=by
 rcases H1,H2 with⟨⟨rfl⟩,⟨rfl⟩⟩
 rw[QK];simp -dsimp only[↓evA,evB,Qu,Tryz.func159,Tryz.f159,Qv3,Qm3,TP,TZ,Nat.reduceAdd,Nat.reduceMul,Nat.reduceBEq,Nat.reduceLeDiff,Nat.reduceLT];apply Vc o a;intro o a;simp -dsimp +contextual only[↓evA,eZ,Nat.reduceAdd,Nat.reduceMul,Nat.reduceBEq,Nat.reduceLeDiff,Nat.reduceLT,Qhz]
 try simp only[Xk,eY]
 all_goals rfl
theorem QkF(s){R1 r}[H1:EncR VN R1 r]:CP T (n+9) 159 [.agg R1,.i .i64 s]=(Qbi r s).map fun r=>.own 1 (r.map Qi):=by
 obtain⟨rfl⟩:=H1;rw[Qm];simp -dsimp +contextual only[↓evA,eZ,Nat.reduceAdd,Nat.reduceMul,Nat.reduceBEq,Nat.reduceLeDiff,Nat.reduceLT,Tryz.func159,Tryz.f159,Qv3,Qm3,QfG,QcH,QhK]
 try simp only[Qbi,eY]
 all_goals first|rfl|(simp +contextual only[evN]<;>rfl)
theorem QfP(a a3 a4){R1 b R2 a2}[H1:EncL Qi R1 b][H2:EncL Qi R2 a2]:LP T (n+4) 158 3 (frm [(1,.imm 1 R1),(5,.i .i64 a),(9,.sl 0),(10,.i .i64 a3),(11,.i .i64 a4)]) [some (Ent.lst 1 R2)] =
  (run (XL b a2 a3) (a,a4)).map (fun(zr:Int)=>(XE.exit 0,frm [(5,.i .i64 zr)],[])):=by
 rcases H1,H2 with⟨⟨rfl⟩,⟨rfl⟩⟩
 rw[QK];simp -dsimp only[↓evA,evB,Qu,Tryz.func158,Tryz.f158,QBK,QpO,TP,TZ,Nat.reduceAdd,Nat.reduceMul,Nat.reduceBEq,Nat.reduceLeDiff,Nat.reduceLT];apply Vc a a4;intro a a4;simp -dsimp +contextual only[↓evA,eZ,Nat.reduceAdd,Nat.reduceMul,Nat.reduceBEq,Nat.reduceLeDiff,Nat.reduceLT,Qcy]
 try simp only[XL,eY]
 all_goals rfl
theorem QhY{R1 a R2 b}[H1:EncL Qi R1 a][H2:EncL Qi R2 b]:CP T (n+5) 158 [.imm 1 R1,.imm 1 R2]=(ZZ a b).map fun r=>.i .i64 r:=by
 rcases H1,H2 with⟨⟨rfl⟩,⟨rfl⟩⟩
 rw[Qm];simp -dsimp +contextual only[↓evA,eZ,Nat.reduceAdd,Nat.reduceMul,Nat.reduceBEq,Nat.reduceLeDiff,Nat.reduceLT,Tryz.func158,Tryz.f158,QBK,QpO,QcH,QfP]
 try simp only[ZZ,eY]
 all_goals rfl
theorem QfY(s){R1 r R2 a}[H1:EncR VN R1 r][H2:EncL Qi R2 a]:CP T (n+10) 82 [.agg R1,.imm 1 R2,.i .i64 s]=(Zy r a s).map fun r=>.b r:=by
 rcases H1,H2 with⟨⟨rfl⟩,⟨rfl⟩⟩
 rw[Qm];simp -dsimp +contextual only[↓evA,eZ,Nat.reduceAdd,Nat.reduceMul,Nat.reduceBEq,Nat.reduceLeDiff,Nat.reduceLT,Tryz.func82,Tryz.f82,QPw,QyS,QkF,QhY]
 try simp only[Zy,eY]
 all_goals rfl
theorem QmM{R1 r R2 f}[H1:EncR VN R1 r][H2:EncR QX R2 f]:CP T (n+5) 220 [.agg R1,.agg R2]=(Qei r f).map fun r=>.s r:=by
 rcases H1,H2 with⟨⟨rfl⟩,⟨rfl⟩⟩
 rw[Qm];simp -dsimp +contextual only[↓evA,eZ,Nat.reduceAdd,Nat.reduceMul,Nat.reduceBEq,Nat.reduceLeDiff,Nat.reduceLT,Tryz.func220,Tryz.f220,QN0,QsZ,QfG,Qhg,Qhf,Ze]
 try simp only[Qei,eY]
 all_goals rfl
theorem Qn6{R1 r R2 f}[H1:EncR VN R1 r][H2:EncR QX R2 f]:CP T (n+6) 160 [.agg R1,.agg R2]=(ZC r f).map fun r=>.b r:=by
 rcases H1,H2 with⟨⟨rfl⟩,⟨rfl⟩⟩
 rw[Qm];simp -dsimp +contextual only[↓evA,eZ,Nat.reduceAdd,Nat.reduceMul,Nat.reduceBEq,Nat.reduceLeDiff,Nat.reduceLT,Tryz.func160,Tryz.f160,QJa,Qtp,QmM]
 try simp only[ZC,eY]
 all_goals rfl
theorem Qju(a3 a4){R1 r R2 a R3 o R4 a2}[H1:EncR VN R1 r][H2:EncR Q6 R2 a][H3:EncL Qcj R3 o][H4:EncL QX R4 a2]:LP T (n+7) 83 3 (frm [(2,.ptr 0 0 0),(3,.ptr 1 0 0),(5,.sl 2),(10,.sl 3),(11,.i .i64 a3),(12,.i .i64 a4)]) [some (Ent.box R1),some (Ent.box R2),some (Ent.lst 2 R3),some (Ent.lst 8 R4)] =
  (run (ZV r a a2 a3) (o,a4)).map (fun(zr:(List Hit))=>(XE.exit 0,frm [(5,.sl 0)],[some (Ent.lst 2 (zr.map Qcj))])):=by
 rcases H1,H2,H3,H4 with⟨⟨rfl⟩,⟨rfl⟩,⟨rfl⟩,⟨rfl⟩⟩
 rw[QK];simp -dsimp only[↓evA,evB,Qu,Tryz.func83,Tryz.f83,QIA,QwR,TP,TZ,Nat.reduceAdd,Nat.reduceMul,Nat.reduceBEq,Nat.reduceLeDiff,Nat.reduceLT];apply Vc o a4;intro o a4;simp -dsimp +contextual (maxSteps:=100000000) only[↓evA,eZ,Nat.reduceAdd,Nat.reduceMul,Nat.reduceBEq,Nat.reduceLeDiff,Nat.reduceLT,Qn6]
 try simp only[ZV,eY]
 all_goals rfl
theorem Qhb{R1 r R2 a}[H1:EncR VN R1 r][H2:EncR Q6 R2 a]:CP T (n+8) 83 [.agg R1,.agg R2]=(QbU r a).map fun r=>.own 2 (r.map Qcj):=by
 rcases H1,H2 with⟨⟨rfl⟩,⟨rfl⟩⟩
 rw[Qm];simp -dsimp +contextual (maxSteps:=100000000) only[↓evA,eZ,Nat.reduceAdd,Nat.reduceMul,Nat.reduceBEq,Nat.reduceLeDiff,Nat.reduceLT,Tryz.func83,Tryz.f83,QIA,QwR,Qd5,Qju]
 try simp only[QbU,eY]
 all_goals first|rfl|(simp +contextual only[evN]<;>rfl)
theorem QiR(s a2 a3){R1 r R2 o R3 a}[H1:EncR VN R1 r][H2:EncL Qcj R2 o][H3:EncL Q6 R3 a]:LP T (n+11) 21 3 (frm [(2,.i .i64 s),(3,.ptr 0 0 0),(7,.sl 1),(11,.imm 9 R3),(12,.i .i64 a2),(13,.i .i64 a3)]) [some (Ent.box R1),some (Ent.lst 2 R2)] =
  (run (XN s r a a2) (o,a3)).map (fun(zr:(List Hit))=>(XE.exit 0,frm [(7,.sl 0)],[some (Ent.lst 2 (zr.map Qcj))])):=by
 rcases H1,H2,H3 with⟨⟨rfl⟩,⟨rfl⟩,⟨rfl⟩⟩
 rw[QK];simp -dsimp only[↓evA,evB,Qu,Tryz.func21,Tryz.f21,QHo,QxM,TP,TZ,Nat.reduceAdd,Nat.reduceMul,Nat.reduceBEq,Nat.reduceLeDiff,Nat.reduceLT];apply Vc o a3;intro o a3;simp -dsimp +contextual (maxSteps:=100000000) only[↓evA,eZ,Nat.reduceAdd,Nat.reduceMul,Nat.reduceBEq,Nat.reduceLeDiff,Nat.reduceLT,Qb3,QfY,Qhb]
 try simp only[XN,eY]
 all_goals rfl
theorem QlA(s){R1 r R2 a}[H1:EncR VN R1 r][H2:EncL Q6 R2 a]:CP T (n+12) 21 [.agg R1,.imm 9 R2,.i .i64 s]=(Qct r a s).map fun r=>.own 2 (r.map Qcj):=by
 rcases H1,H2 with⟨⟨rfl⟩,⟨rfl⟩⟩
 rw[Qm];simp -dsimp +contextual (maxSteps:=100000000) only[↓evA,eZ,Nat.reduceAdd,Nat.reduceMul,Nat.reduceBEq,Nat.reduceLeDiff,Nat.reduceLT,Tryz.func21,Tryz.f21,QHo,QxM,QiR]
 try simp only[Qct,eY]
 all_goals first|rfl|(simp +contextual only[evN]<;>rfl)
theorem Qid(a2 a3){R1 r R2 o R3 a}[H1:EncR VN R1 r][H2:EncL Qcj R2 o][H3:EncL Q6 R3 a]:LP T (n+9) 22 3 (frm [(2,.ptr 0 0 0),(5,.sl 1),(9,.imm 9 R3),(10,.i .i64 a2),(11,.i .i64 a3)]) [some (Ent.box R1),some (Ent.lst 2 R2)] =
  (run (XQ r a a2) (o,a3)).map (fun(zr:(List Hit))=>(XE.exit 0,frm [(5,.sl 0)],[some (Ent.lst 2 (zr.map Qcj))])):=by
 rcases H1,H2,H3 with⟨⟨rfl⟩,⟨rfl⟩,⟨rfl⟩⟩
 rw[QK];simp -dsimp only[↓evA,evB,Qu,Tryz.func22,Tryz.f22,QNZ,Qwp,TP,TZ,Nat.reduceAdd,Nat.reduceMul,Nat.reduceBEq,Nat.reduceLeDiff,Nat.reduceLT];apply Vc o a3;intro o a3;simp -dsimp +contextual (maxSteps:=100000000) only[↓evA,eZ,Nat.reduceAdd,Nat.reduceMul,Nat.reduceBEq,Nat.reduceLeDiff,Nat.reduceLT,Qhb]
 try simp only[XQ,eY]
 all_goals rfl
theorem Qmu{R1 r R2 a}[H1:EncR VN R1 r][H2:EncL Q6 R2 a]:CP T (n+10) 22 [.agg R1,.imm 9 R2]=(Qb5 r a).map fun r=>.own 2 (r.map Qcj):=by
 rcases H1,H2 with⟨⟨rfl⟩,⟨rfl⟩⟩
 rw[Qm];simp -dsimp +contextual (maxSteps:=100000000) only[↓evA,eZ,Nat.reduceAdd,Nat.reduceMul,Nat.reduceBEq,Nat.reduceLeDiff,Nat.reduceLT,Tryz.func22,Tryz.f22,QNZ,Qwp,Qid]
 try simp only[Qb5,eY]
 all_goals first|rfl|(simp +contextual only[evN]<;>rfl)
theorem QfQ(a a2){R1 s R2 s2}[H1:EncL Qcj R1 s][H2:EncL Qcj R2 s2]:LP T (n+1) 84 4 (frm [(0,.imm 2 R1),(1,.imm 2 R2),(12,.i .i64 a),(13,.i .i64 a2)]) [] =
  Qbe (run (VW s s2 a) a2) (fun(zr:Bool)=>(XE.ret,frm [(4,.b zr)],[])) (fun(zr:Unit)=>(XE.exit 0,frm [],[])):=by
 rcases H1,H2 with⟨⟨rfl⟩,⟨rfl⟩⟩
 rw[QK];simp -dsimp only[↓evA,evB,Qu,Tryz.func84,Tryz.f84,QJC,Qwm,TP,TZ,Nat.reduceAdd,Nat.reduceMul,Nat.reduceBEq,Nat.reduceLeDiff,Nat.reduceLT];apply QM a2;intro a2;simp -dsimp +contextual only[↓evA,eZ,Nat.reduceAdd,Nat.reduceMul,Nat.reduceBEq,Nat.reduceLeDiff,Nat.reduceLT]
 try simp only[VW,eY]
 all_goals rfl
theorem Qhq{R1 s R2 s2}[H1:EncL Qcj R1 s][H2:EncL Qcj R2 s2]:CP T (n+2) 84 [.imm 2 R1,.imm 2 R2]=(J1 s s2).map fun r=>.b r:=by
 rcases H1,H2 with⟨⟨rfl⟩,⟨rfl⟩⟩
 rw[Qm];simp -dsimp +contextual only[↓evA,eZ,Nat.reduceAdd,Nat.reduceMul,Nat.reduceBEq,Nat.reduceLeDiff,Nat.reduceLT,Tryz.func84,Tryz.f84,QJC,Qwm,QfQ]
 try simp only[J1,eY]
 all_goals rfl
theorem Qjx{R1 a R2 b}[H1:EncL Qcj R1 a][H2:EncL Qcj R2 b]:CP T (n+3) 23 [.imm 2 R1,.imm 2 R2]=(VP a b).map fun r=>.b r:=by
 rcases H1,H2 with⟨⟨rfl⟩,⟨rfl⟩⟩
 rw[Qm];simp -dsimp +contextual only[↓evA,eZ,Nat.reduceAdd,Nat.reduceMul,Nat.reduceBEq,Nat.reduceLeDiff,Nat.reduceLT,Tryz.func23,Tryz.f23,QP4,QBr,Qhq]
 try simp only[VP,eY]
 all_goals rfl
theorem QfU(s a2 a3){R1 r R2 o R3 a}[H1:EncR VN R1 r][H2:EncL Qi R2 o][H3:EncL Q6 R3 a]:LP T (n+11) 24 3 (frm [(2,.i .i64 s),(3,.ptr 0 0 0),(7,.sl 1),(11,.imm 9 R3),(12,.i .i64 a2),(13,.i .i64 a3)]) [some (Ent.box R1),some (Ent.lst 1 R2)] =
  (run (XJ s r a a2) (o,a3)).map (fun(zr:(List Int))=>(XE.exit 0,frm [(7,.sl 0)],[some (Ent.lst 1 (zr.map Qi))])):=by
 rcases H1,H2,H3 with⟨⟨rfl⟩,⟨rfl⟩,⟨rfl⟩⟩
 rw[QK];simp -dsimp only[↓evA,evB,Qu,Tryz.func24,Tryz.f24,QG6,QwL,TP,TZ,Nat.reduceAdd,Nat.reduceMul,Nat.reduceBEq,Nat.reduceLeDiff,Nat.reduceLT];apply Vc o a3;intro o a3;simp -dsimp +contextual (maxSteps:=100000000) only[↓evA,eZ,Nat.reduceAdd,Nat.reduceMul,Nat.reduceBEq,Nat.reduceLeDiff,Nat.reduceLT,Qb3,QfY]
 try simp only[XJ,eY]
 all_goals rfl
theorem Qhs(s){R1 r R2 a}[H1:EncR VN R1 r][H2:EncL Q6 R2 a]:CP T (n+12) 24 [.agg R1,.imm 9 R2,.i .i64 s]=(Z2 r a s).map fun r=>.own 1 (r.map Qi):=by
 rcases H1,H2 with⟨⟨rfl⟩,⟨rfl⟩⟩
 rw[Qm];simp -dsimp +contextual (maxSteps:=100000000) only[↓evA,eZ,Nat.reduceAdd,Nat.reduceMul,Nat.reduceBEq,Nat.reduceLeDiff,Nat.reduceLT,Tryz.func24,Tryz.f24,QG6,QwL,QfU]
 try simp only[Z2,eY]
 all_goals first|rfl|(simp +contextual only[evN]<;>rfl)
theorem Qhu(a i){R1 l}[H1:EncL Qi R1 l]:LP T (n+1) 25 2 (frm [(0,.imm 1 R1),(1,.i .i64 a),(5,.i .i64 i)]) [] =
  Qbe (run (JV l a) i) (fun(zr:Bool)=>(XE.ret,frm [(4,.b zr)],[])) (fun(zr:Unit)=>(XE.exit 0,frm [],[])):=by
 obtain⟨rfl⟩:=H1;rw[QK];simp -dsimp only[↓evA,evB,Qu,Tryz.func25,Tryz.f25,QGW,Qyi,TP,TZ,Nat.reduceAdd,Nat.reduceMul,Nat.reduceBEq,Nat.reduceLeDiff,Nat.reduceLT];apply QM i;intro i;simp -dsimp +contextual only[↓evA,eZ,Nat.reduceAdd,Nat.reduceMul,Nat.reduceBEq,Nat.reduceLeDiff,Nat.reduceLT]
 try simp only[JV,eY]
 all_goals rfl
theorem QkI(a){R1 l}[H1:EncL Qi R1 l]:CP T (n+2) 25 [.imm 1 R1,.i .i64 a]=(Qbk l a).map fun r=>.b r:=by
 obtain⟨rfl⟩:=H1;rw[Qm];simp -dsimp +contextual only[↓evA,eZ,Nat.reduceAdd,Nat.reduceMul,Nat.reduceBEq,Nat.reduceLeDiff,Nat.reduceLT,Tryz.func25,Tryz.f25,QGW,Qyi,Qhu]
 try simp only[Qbk,eY]
 all_goals rfl
theorem Qlo{R1 c}[H1:EncR Qw R1 c]:CA T (n+17) 85 [some (Ent.box R1)] [.ptr 0 0 0]=(Qb4 c).map fun r=>(.agg [.i .i64 r.2.No,.sl 1,.sl 2,.sl 3,.sl 4,.sl 5,.sl 6,.sl 7,.i .i64 r.2.Now],[some (Ent.box (Qw r.1)),some (Ent.lst 8 (r.2.Finds.map QX)),some (Ent.lst 3 (r.2.Secrets.map Xl)),some (Ent.lst 3 (r.2.Slots.map VM)),some (Ent.lst 5 (r.2.Claims.map Vk)),some (Ent.lst 4 (r.2.Trials.map Jy)),some (Ent.lst 5 (r.2.Chain.map Zc)),some (Ent.lst 4 (r.2.Book.map Jk))]):=by
 obtain⟨rfl⟩:=H1;rw[QaG];simp -dsimp +contextual (maxSteps:=100000000) only[↓evA,eZ,Nat.reduceAdd,Nat.reduceMul,Nat.reduceBEq,Nat.reduceLeDiff,Nat.reduceLT,Tryz.func85,Tryz.f85,QRe,Qzm,srt,Qfz,Qf9,QeT,Qp,QdT,Qgz,QfB]
 try simp only[Qb4,eY]
 all_goals rfl
theorem QfT{R1 c}[H1:EncL QbK R1 c]:CP T (n+18) 26 [.imm 1 R1]=(JH c).map fun r=>.tup [.agg (Ja r.1),.i .i64 r.2]:=by
 obtain⟨rfl⟩:=H1;rw[Qm];simp -dsimp +contextual (maxSteps:=100000000) only[↓evA,eZ,Nat.reduceAdd,Nat.reduceMul,Nat.reduceBEq,Nat.reduceLeDiff,Nat.reduceLT,Tryz.func26,Tryz.f26,QPJ,Qy7,srt,Qfj,Qlo,Qp]
 try simp only[JH,eY]
 try simp only[List.contains_nil,Bool.not_false,Bool.and_true,Vz,List.length_append,List.length_cons,List.length_nil,Nat.zero_add,VD,VT]
 all_goals rfl
theorem Qhr{R1 c}[H1:EncL QbK R1 c]:CA T (n+19) 86 [] [.imm 1 R1]=(ZS c).map fun r=>(.tup [.agg (VN r.1),.imm 9 (r.2.map Q6)],[]):=by
 obtain⟨rfl⟩:=H1;rw[QaG];simp -dsimp +contextual (maxSteps:=100000000) only[↓evA,eZ,Nat.reduceAdd,Nat.reduceMul,Nat.reduceBEq,Nat.reduceLeDiff,Nat.reduceLT,Tryz.func86,Tryz.f86,QOj,QzL,srt,Qdz]
 try simp only[ZS,eY]
 all_goals rfl
theorem QhP(i){R1 a R2 o}[H1:EncR Q6 R1 a][H2:EncL QX R2 o]:LP T (n+3) 221 3 (frm [(1,.ptr 0 0 0),(3,.sl 1),(4,.i .i64 i)]) [some (Ent.box R1),some (Ent.lst 8 R2)] =
  (run (J2 a) (o,i)).map (fun(zr:(List Find))=>(XE.exit 0,frm [(3,.sl 0)],[some (Ent.lst 8 (zr.map QX))])):=by
 rcases H1,H2 with⟨⟨rfl⟩,⟨rfl⟩⟩
 rw[QK];simp -dsimp only[↓evA,evB,Qu,Tryz.func221,Tryz.f221,QCc,Qqw,TP,TZ,Nat.reduceAdd,Nat.reduceMul,Nat.reduceBEq,Nat.reduceLeDiff,Nat.reduceLT];apply Vc o i;intro o i;simp -dsimp +contextual (maxSteps:=100000000) only[↓evA,eZ,Nat.reduceAdd,Nat.reduceMul,Nat.reduceBEq,Nat.reduceLeDiff,Nat.reduceLT,Qbq]
 try simp only[J2,eY]
 all_goals rfl
theorem Qkt{R1 a}[H1:EncR Q6 R1 a]:CP T (n+4) 221 [.agg R1]=(Qbv a).map fun r=>.own 8 (r.map QX):=by
 obtain⟨rfl⟩:=H1;rw[Qm];simp -dsimp +contextual (maxSteps:=100000000) only[↓evA,eZ,Nat.reduceAdd,Nat.reduceMul,Nat.reduceBEq,Nat.reduceLeDiff,Nat.reduceLT,Tryz.func221,Tryz.f221,QCc,Qqw,QhP]
 try simp only[Qbv,eY]
 all_goals first|rfl|(simp +contextual only[evN]<;>rfl)
theorem QkC(l2 a i){R1 l}[H1:EncL Qi R1 l]:LP T (n+2) 293 2 (frm [(0,.imm 1 R1),(1,.i .i64 l2),(2,.i .i64 a),(7,.i .i64 i)]) [] =
  Qbe (run (JS l l2 a) i) (fun(zr:Bool)=>(XE.ret,frm [(6,.b zr)],[])) (fun(zr:Unit)=>(XE.exit 0,frm [],[])):=by
 obtain⟨rfl⟩:=H1;rw[QK];simp -dsimp only[↓evA,evB,Qu,Tryz.func293,Tryz.f293,QBD,QpM,TP,TZ,Nat.reduceAdd,Nat.reduceMul,Nat.reduceBEq,Nat.reduceLeDiff,Nat.reduceLT];apply QM i;intro i;simp -dsimp +contextual only[↓evA,eZ,Nat.reduceAdd,Nat.reduceMul,Nat.reduceBEq,Nat.reduceLeDiff,Nat.reduceLT,QO]
 try simp only[JS,eY]
 all_goals rfl
theorem Qn3(l2 a){R1 l}[H1:EncL Qi R1 l]:CP T (n+3) 293 [.imm 1 R1,.i .i64 l2,.i .i64 a]=(QcK l l2 a).map fun r=>.b r:=by
 obtain⟨rfl⟩:=H1;rw[Qm];simp -dsimp +contextual only[↓evA,eZ,Nat.reduceAdd,Nat.reduceMul,Nat.reduceBEq,Nat.reduceLeDiff,Nat.reduceLT,Tryz.func293,Tryz.f293,QBD,QpM,QkC]
 try simp only[QcK,eY]
 all_goals rfl
theorem QmN{R1 s}[H1:EncR Qiu R1 s]:CP T (n+2) 294 [.agg R1]=(Qef s).map fun r=>.b r:=by
 obtain⟨rfl⟩:=H1;rw[Qm];simp -dsimp +contextual only[↓evA,eZ,Nat.reduceAdd,Nat.reduceMul,Nat.reduceBEq,Nat.reduceLeDiff,Nat.reduceLT,Tryz.func294,Tryz.f294,QJj,QtS,QO]
 try simp only[Qef,eY]
 all_goals rfl
theorem QkJ{R1 r}[H1:EncR VN R1 r]:CP T (n+4) 285 [.agg R1]=(Qbl r).map fun r=>.b r:=by
 obtain⟨rfl⟩:=H1;rw[Qm];simp -dsimp +contextual only[↓evA,eZ,Nat.reduceAdd,Nat.reduceMul,Nat.reduceBEq,Nat.reduceLeDiff,Nat.reduceLT,Tryz.func285,Tryz.f285,QIU,QsS,QO,Qn3,QmN]
 try simp only[Qbl,eY]
 all_goals rfl
theorem QmP{R1 r R2 f}[H1:EncR VN R1 r][H2:EncR QX R2 f]:CP T (n+5) 268 [.agg R1,.agg R2]=(Qd4 r f).map fun r=>.s r:=by
 rcases H1,H2 with⟨⟨rfl⟩,⟨rfl⟩⟩
 rw[Qm];simp -dsimp +contextual only[↓evA,eZ,Nat.reduceAdd,Nat.reduceMul,Nat.reduceBEq,Nat.reduceLeDiff,Nat.reduceLT,Tryz.func268,Tryz.f268,QHY,Qtc,QkJ,QcP,Qia,QO]
 try simp only[Qd4,eY]
 all_goals rfl
theorem QoU{R1 r R2 f}[H1:EncR VN R1 r][H2:EncR QX R2 f]:CP T (n+6) 222 [.agg R1,.agg R2]=(QdH r f).map fun r=>.b r:=by
 rcases H1,H2 with⟨⟨rfl⟩,⟨rfl⟩⟩
 rw[Qm];simp -dsimp +contextual only[↓evA,eZ,Nat.reduceAdd,Nat.reduceMul,Nat.reduceBEq,Nat.reduceLeDiff,Nat.reduceLT,Tryz.func222,Tryz.f222,QKW,Qta,QmP]
 try simp only[QdH,eY]
 all_goals rfl
theorem Qii(i){R1 r R2 a R3 o R4 f}[H1:EncR VN R1 r][H2:EncR Q6 R2 a][H3:EncL Qcj R3 o][H4:EncL QX R4 f]:LP T (n+7) 164 4 (frm [(2,.ptr 0 0 0),(3,.ptr 1 0 0),(5,.sl 2),(6,.sl 3),(7,.i .i64 i)]) [some (Ent.box R1),some (Ent.box R2),some (Ent.lst 2 R3),some (Ent.lst 8 R4)] =
  (run (Zo r a f) (o,i)).map (fun(zr:(List Hit))=>(XE.exit 0,frm [(5,.sl 0)],[some (Ent.lst 2 (zr.map Qcj))])):=by
 rcases H1,H2,H3,H4 with⟨⟨rfl⟩,⟨rfl⟩,⟨rfl⟩,⟨rfl⟩⟩
 rw[QK];simp -dsimp only[↓evA,evB,Qu,Tryz.func164,Tryz.f164,QCa,QpU,TP,TZ,Nat.reduceAdd,Nat.reduceMul,Nat.reduceBEq,Nat.reduceLeDiff,Nat.reduceLT];apply Vc o i;intro o i;simp -dsimp +contextual (maxSteps:=100000000) only[↓evA,eZ,Nat.reduceAdd,Nat.reduceMul,Nat.reduceBEq,Nat.reduceLeDiff,Nat.reduceLT,QoU]
 try simp only[Zo,eY]
 all_goals rfl
theorem Ql0{R1 r R2 a}[H1:EncR VN R1 r][H2:EncR Q6 R2 a]:CP T (n+8) 164 [.agg R1,.agg R2]=(Qcp r a).map fun r=>.own 2 (r.map Qcj):=by
 rcases H1,H2 with⟨⟨rfl⟩,⟨rfl⟩⟩
 rw[Qm];simp -dsimp +contextual (maxSteps:=100000000) only[↓evA,eZ,Nat.reduceAdd,Nat.reduceMul,Nat.reduceBEq,Nat.reduceLeDiff,Nat.reduceLT,Tryz.func164,Tryz.f164,QCa,QpU,Qkt,Qii]
 try simp only[Qcp,eY]
 all_goals first|rfl|(simp +contextual only[evN]<;>rfl)
theorem Qh4(i){R1 a R2 r R3 o}[H1:EncL Q6 R1 a][H2:EncR VN R2 r][H3:EncL Qcj R3 o]:LP T (n+9) 87 3 (frm [(1,.imm 9 R1),(2,.ptr 0 0 0),(5,.sl 1),(6,.i .i64 i)]) [some (Ent.box R2),some (Ent.lst 2 R3)] =
  (run (Zp a r) (o,i)).map (fun(zr:(List Hit))=>(XE.exit 0,frm [(5,.sl 0)],[some (Ent.lst 2 (zr.map Qcj))])):=by
 rcases H1,H2,H3 with⟨⟨rfl⟩,⟨rfl⟩,⟨rfl⟩⟩
 rw[QK];simp -dsimp only[↓evA,evB,Qu,Tryz.func87,Tryz.f87,QGN,Qxp,TP,TZ,Nat.reduceAdd,Nat.reduceMul,Nat.reduceBEq,Nat.reduceLeDiff,Nat.reduceLT];apply Vc o i;intro o i;simp -dsimp +contextual (maxSteps:=100000000) only[↓evA,eZ,Nat.reduceAdd,Nat.reduceMul,Nat.reduceBEq,Nat.reduceLeDiff,Nat.reduceLT,Ql0]
 try simp only[Zp,eY]
 all_goals rfl
theorem Qlv{R1 r R2 a}[H1:EncR VN R1 r][H2:EncL Q6 R2 a]:CP T (n+10) 87 [.agg R1,.imm 9 R2]=(Qci r a).map fun r=>.own 2 (r.map Qcj):=by
 rcases H1,H2 with⟨⟨rfl⟩,⟨rfl⟩⟩
 rw[Qm];simp -dsimp +contextual (maxSteps:=100000000) only[↓evA,eZ,Nat.reduceAdd,Nat.reduceMul,Nat.reduceBEq,Nat.reduceLeDiff,Nat.reduceLT,Tryz.func87,Tryz.f87,QGN,Qxp,Qh4]
 try simp only[Qci,eY]
 all_goals first|rfl|(simp +contextual only[evN]<;>rfl)
theorem Qgv{R1 c}[H1:EncL QbK R1 c]:CA T (n+20) 27 [] [.imm 1 R1]=(J4 c).map fun r=>(.tup [.imm 2 (r.1.map Qcj),.imm 2 (r.2.map Qcj)],[]):=by
 obtain⟨rfl⟩:=H1;rw[QaG];simp -dsimp +contextual (maxSteps:=100000000) only[↓evA,eZ,Nat.reduceAdd,Nat.reduceMul,Nat.reduceBEq,Nat.reduceLeDiff,Nat.reduceLT,Tryz.func27,Tryz.f27,QR2,Qz5,srt,Qhr,Qlv,Qfj,VR]
 try simp only[J4,eY]
 all_goals rfl
end Go.Proofs.YtonidbheohhgdaaGreat
