import Derived.Test.YtonidbheohhgdaaGreatEc
namespace Go.Proofs.YtonidbheohhgdaaGreat
open Go Go.Proofs Go.Proofs.YtonidbheohhgdaaGreat.Am
set_option maxHeartbeats 4000000
set_option linter.unusedVariables false
set_option linter.unusedSimpArgs false
set_option linter.defProp false
set_option maxRecDepth 100000
variable(n:Nat)
theorem Qr4{R1 c}[H1:EncL QbJ R1 c]:CP T (n+1) 5 [.imm 1 R1]=(Qdw c).map fun r=>.b r:=by
 obtain⟨rfl⟩:=H1;rw[Qm];simp -dsimp +contextual only[↓evA,eZ,Nat.reduceAdd,Nat.reduceMul,Nat.reduceBEq,Nat.reduceLeDiff,Nat.reduceLT,Tryz.func5,Tryz.f5,Aa5,An5]
 try simp only[Qdw,eY]
 all_goals rfl
theorem Qkt(a i){R1 c}[H1:EncL QbJ R1 c]:LP T (n+1) 30 3 (frm [(0,.imm 1 R1),(3,.i .i64 a),(4,.i .i64 i)]) [] =
  (run (JQ c) (a,i)).map (fun(zr:Int)=>(XE.exit 0,frm [(0,.imm 1 (c.map QbJ)),(3,.i .i64 zr)],[])):=by
 obtain⟨rfl⟩:=H1;rw[QK];simp -dsimp only[↓evA,evB,Qu,Tryz.func30,Tryz.f30,QHc,Qxp,TP,TZ,Nat.reduceAdd,Nat.reduceMul,Nat.reduceBEq,Nat.reduceLeDiff,Nat.reduceLT];apply Ve a i;intro a i;simp -dsimp +contextual only[↓evA,eZ,Nat.reduceAdd,Nat.reduceMul,Nat.reduceBEq,Nat.reduceLeDiff,Nat.reduceLT]
 try simp only[JQ,eY]
 all_goals rfl
theorem Qe7{R1 c}[H1:EncL QbJ R1 c]:CA T (n+2) 30 [] [.imm 1 R1]=(QbN c).map fun r=>(.ptr 0 0 0,[some (Ent.box (Qw r))]):=by
 obtain⟨rfl⟩:=H1;rw[QaJ];simp -dsimp +contextual (maxSteps:=100000000) only[↓evA,eZ,Nat.reduceAdd,Nat.reduceMul,Nat.reduceBEq,Nat.reduceLeDiff,Nat.reduceLT,Tryz.func30,Tryz.f30,QHc,Qxp,Qkt]
 try simp only[QbN,eY]
 all_goals rfl
theorem QmT{R1 c}[H1:EncR Qw R1 c]:CA T (n+1) 149 [some (Ent.box R1)] [.ptr 0 0 0]=(Z9 c).map fun r=>(.i .i64 r.2,[some (Ent.box (Qw r.1))]):=by
 obtain⟨rfl⟩:=H1;rw[QaJ];simp -dsimp +contextual (maxSteps:=100000000) only[↓evA,eZ,Nat.reduceAdd,Nat.reduceMul,Nat.reduceBEq,Nat.reduceLeDiff,Nat.reduceLT,Tryz.func149,Tryz.f149,QGy,Qsp]
 try simp only[Z9,eY]
 all_goals rfl
theorem Qo(a){R1 c}[H1:EncR Qw R1 c]:CA T (n+2) 77 [some (Ent.box R1)] [.ptr 0 0 0,.i .i64 a]=(Qf c a).map fun r=>(.i .i64 r.2,[some (Ent.box (Qw r.1))]):=by
 obtain⟨rfl⟩:=H1;rw[QaJ];simp -dsimp +contextual (maxSteps:=100000000) only[↓evA,eZ,Nat.reduceAdd,Nat.reduceMul,Nat.reduceBEq,Nat.reduceLeDiff,Nat.reduceLT,Tryz.func77,Tryz.f77,QPx,QAa,srt,QmT]
 try simp only[Qf,eY]
 all_goals rfl
theorem QhG(i){R1 c R2 l}[H1:EncR Qw R1 c][H2:EncL VM R2 l]:LP T (n+3) 91 3 (frm [(0,.ptr 0 0 0),(3,.sl 1),(4,.i .i64 i)]) [some (Ent.box R1),some (Ent.lst 3 R2)] =
  (run J3 (c,l,i)).map (fun(zr:l1Cur×(List Slot))=>(XE.exit 0,frm [(0,.ptr 0 0 0),(3,.sl 1)],[some (Ent.box (Qw zr.1)),some (Ent.lst 3 (zr.2.map VM))])):=by
 rcases H1,H2 with⟨⟨rfl⟩,⟨rfl⟩⟩
 rw[QK];simp -dsimp only[↓evA,evB,Qu,Tryz.func91,Tryz.f91,QIu,Qwm,TP,TZ,Nat.reduceAdd,Nat.reduceMul,Nat.reduceBEq,Nat.reduceLeDiff,Nat.reduceLT];apply QdQ c l i;intro c l i;simp -dsimp +contextual only[↓evA,eZ,Nat.reduceAdd,Nat.reduceMul,Nat.reduceBEq,Nat.reduceLeDiff,Nat.reduceLT,srt,Qo]
 try simp only[J3,eY]
 all_goals rfl
theorem QkM{R1 c}[H1:EncR Qw R1 c]:CA T (n+4) 91 [some (Ent.box R1)] [.ptr 0 0 0]=(Qbu c).map fun r=>(.sl 1,[some (Ent.box (Qw r.1)),some (Ent.lst 3 (r.2.map VM))]):=by
 obtain⟨rfl⟩:=H1;rw[QaJ];simp -dsimp +contextual (maxSteps:=100000000) only[↓evA,eZ,Nat.reduceAdd,Nat.reduceMul,Nat.reduceBEq,Nat.reduceLeDiff,Nat.reduceLT,Tryz.func91,Tryz.f91,QIu,Qwm,srt,QhG]
 try simp only[Qbu,eY]
 all_goals rfl
theorem QiN(i){R1 l R2 o}[H1:EncL Jt R1 l][H2:EncL Xl R2 o]:LP T (n+1) 207 3 (frm [(0,.imm 3 R1),(3,.sl 0),(4,.i .i64 i)]) [some (Ent.lst 3 R2)] =
  (run (Jy l) (o,i)).map (fun(zr:(List Secret))=>(XE.exit 0,frm [(3,.sl 0)],[some (Ent.lst 3 (zr.map Xl))])):=by
 rcases H1,H2 with⟨⟨rfl⟩,⟨rfl⟩⟩
 rw[QK];simp -dsimp only[↓evA,evB,Qu,Tryz.func207,Tryz.f207,QBV,Qqh,TP,TZ,Nat.reduceAdd,Nat.reduceMul,Nat.reduceBEq,Nat.reduceLeDiff,Nat.reduceLT];apply Ve o i;intro o i;simp -dsimp +contextual only[↓evA,eZ,Nat.reduceAdd,Nat.reduceMul,Nat.reduceBEq,Nat.reduceLeDiff,Nat.reduceLT]
 try simp only[Jy,eY]
 all_goals rfl
theorem Qgz{R1 l}[H1:EncL Jt R1 l]:CP T (n+2) 207 [.imm 3 R1]=(V4 l).map fun r=>.own 3 (r.map Xl):=by
 obtain⟨rfl⟩:=H1;rw[Qm];simp -dsimp +contextual only[↓evA,eZ,Nat.reduceAdd,Nat.reduceMul,Nat.reduceBEq,Nat.reduceLeDiff,Nat.reduceLT,Tryz.func207,Tryz.f207,QBV,Qqh,QiN]
 try simp only[V4,eY]
 all_goals first|rfl|(simp +contextual only[evN]<;>rfl)
theorem VB{R1 a}[H1:EncR Q6 R1 a]:CP T (n+3) 150 [.agg R1]=(Q7 a).map fun r=>.agg (X8 r):=by
 obtain⟨rfl⟩:=H1;rw[Qm];simp -dsimp +contextual (maxSteps:=100000000) only[↓evA,eZ,Nat.reduceAdd,Nat.reduceMul,Nat.reduceBEq,Nat.reduceLeDiff,Nat.reduceLT,Tryz.func150,Tryz.f150,QOb,Qsh,Qgz]
 try simp only[Q7,eY]
 all_goals rfl
theorem QM(a l m):CP T (n+1) 43 [.i .i64 a,.i .i64 l,.i .i64 m]=(Qc a l m).map fun r=>.b r:=by
 rw[Qm];simp -dsimp +contextual only[↓evA,eZ,Nat.reduceAdd,Nat.reduceMul,Nat.reduceBEq,Nat.reduceLeDiff,Nat.reduceLT,Tryz.func43,Tryz.f43,QQT,QBq]
 try simp only[Qc,eY]
 all_goals rfl
theorem QdC{R1 a}[H1:EncR Qc3 R1 a]:CP T (n+2) 173 [.agg R1]=(XB a).map fun r=>.b r:=by
 obtain⟨rfl⟩:=H1;rw[Qm];simp -dsimp +contextual only[↓evA,eZ,Nat.reduceAdd,Nat.reduceMul,Nat.reduceBEq,Nat.reduceLeDiff,Nat.reduceLT,Tryz.func173,Tryz.f173,QJF,Qt2,QM]
 try simp only[XB,eY]
 all_goals rfl
theorem QcM{R1 f}[H1:EncR QX R1 f]:CP T (n+3) 102 [.agg R1]=(Xk f).map fun r=>.b r:=by
 obtain⟨rfl⟩:=H1;rw[Qm];simp -dsimp +contextual only[↓evA,eZ,Nat.reduceAdd,Nat.reduceMul,Nat.reduceBEq,Nat.reduceLeDiff,Nat.reduceLT,Tryz.func102,Tryz.f102,QIG,QtJ,QdC,QM]
 try simp only[Xk,eY]
 all_goals rfl
theorem QhP(i){R1 l}[H1:EncL QX R1 l]:LP T (n+4) 44 2 (frm [(0,.imm 8 R1),(3,.i .i64 i)]) [] =
  Qbe (run (QU l) i) (fun(zr:Bool)=>(XE.ret,frm [(2,.b zr)],[])) (fun(zr:Unit)=>(XE.exit 0,frm [(0,.imm 8 (l.map QX))],[])):=by
 obtain⟨rfl⟩:=H1;rw[QK];simp -dsimp only[↓evA,evB,Qu,Tryz.func44,Tryz.f44,QJx,QvM,TP,TZ,Nat.reduceAdd,Nat.reduceMul,Nat.reduceBEq,Nat.reduceLeDiff,Nat.reduceLT];apply QP i;intro i;simp -dsimp +contextual only[↓evA,eZ,Nat.reduceAdd,Nat.reduceMul,Nat.reduceBEq,Nat.reduceLeDiff,Nat.reduceLT,QcM]
 try simp only[QU,eY]
 all_goals rfl
theorem QfE{R1 l}[H1:EncL QX R1 l]:CP T (n+5) 44 [.imm 8 R1]=(V1 l).map fun r=>.b r:=by
 obtain⟨rfl⟩:=H1;rw[Qm];simp -dsimp +contextual only[↓evA,eZ,Nat.reduceAdd,Nat.reduceMul,Nat.reduceBEq,Nat.reduceLeDiff,Nat.reduceLT,Tryz.func44,Tryz.f44,QJx,QvM,QhP]
 try simp only[V1,eY]
 all_goals rfl
theorem QhA(i){R1 l}[H1:EncL Zd R1 l]:LP T (n+2) 103 2 (frm [(0,.imm 2 R1),(3,.i .i64 i)]) [] =
  Qbe (run (JY l) i) (fun(zr:Bool)=>(XE.ret,frm [(2,.b zr)],[])) (fun(zr:Unit)=>(XE.exit 0,frm [(0,.imm 2 (l.map Zd))],[])):=by
 obtain⟨rfl⟩:=H1;rw[QK];simp -dsimp only[↓evA,evB,Qu,Tryz.func103,Tryz.f103,QCE,QpK,TP,TZ,Nat.reduceAdd,Nat.reduceMul,Nat.reduceBEq,Nat.reduceLeDiff,Nat.reduceLT];apply QP i;intro i;simp -dsimp +contextual only[↓evA,eZ,Nat.reduceAdd,Nat.reduceMul,Nat.reduceBEq,Nat.reduceLeDiff,Nat.reduceLT,QM]
 try simp only[JY,eY]
 all_goals rfl
theorem Qdb{R1 l}[H1:EncL Zd R1 l]:CP T (n+3) 103 [.imm 2 R1]=(QaD l).map fun r=>.b r:=by
 obtain⟨rfl⟩:=H1;rw[Qm];simp -dsimp +contextual only[↓evA,eZ,Nat.reduceAdd,Nat.reduceMul,Nat.reduceBEq,Nat.reduceLeDiff,Nat.reduceLT,Tryz.func103,Tryz.f103,QCE,QpK,QhA]
 try simp only[QaD,eY]
 all_goals rfl
theorem QfW(i){R1 l}[H1:EncL Jt R1 l]:LP T (n+4) 45 2 (frm [(0,.imm 3 R1),(3,.i .i64 i)]) [] =
  Qbe (run (Xi l) i) (fun(zr:Bool)=>(XE.ret,frm [(2,.b zr)],[])) (fun(zr:Unit)=>(XE.exit 0,frm [(0,.imm 3 (l.map Jt))],[])):=by
 obtain⟨rfl⟩:=H1;rw[QK];simp -dsimp only[↓evA,evB,Qu,Tryz.func45,Tryz.f45,QLT,QvR,TP,TZ,Nat.reduceAdd,Nat.reduceMul,Nat.reduceBEq,Nat.reduceLeDiff,Nat.reduceLT];apply QP i;intro i;simp -dsimp +contextual only[↓evA,eZ,Nat.reduceAdd,Nat.reduceMul,Nat.reduceBEq,Nat.reduceLeDiff,Nat.reduceLT,QM,Qdb]
 try simp only[Xi,eY]
 all_goals rfl
theorem Qel{R1 l}[H1:EncL Jt R1 l]:CP T (n+5) 45 [.imm 3 R1]=(V7 l).map fun r=>.b r:=by
 obtain⟨rfl⟩:=H1;rw[Qm];simp -dsimp +contextual only[↓evA,eZ,Nat.reduceAdd,Nat.reduceMul,Nat.reduceBEq,Nat.reduceLeDiff,Nat.reduceLT,Tryz.func45,Tryz.f45,QLT,QvR,QfW]
 try simp only[V7,eY]
 all_goals rfl
theorem QhS(i k){R1 l}[H1:EncL VM R1 l]:LP T (n+1) 46 7 (frm [(0,.imm 3 R1),(3,.i .i64 i),(4,.i .i64 k)]) [] =
  Qbe (run (Vo l i) k) (fun(zr:Bool)=>(XE.ret,frm [(2,.b zr)],[])) (fun(zr:Unit)=>(XE.exit 2,frm [(0,.imm 3 (l.map VM)),(3,.i .i64 i)],[])):=by
 obtain⟨rfl⟩:=H1;rw[QK];simp -dsimp only[↓evA,evB,Qu,Tryz.func46,Tryz.f46,QFS,Qvb,TP,TZ,Nat.reduceAdd,Nat.reduceMul,Nat.reduceBEq,Nat.reduceLeDiff,Nat.reduceLT];apply QP k;intro k;simp -dsimp +contextual only[↓evA,eZ,Nat.reduceAdd,Nat.reduceMul,Nat.reduceBEq,Nat.reduceLeDiff,Nat.reduceLT]
 try simp only[Vo,eY]
 all_goals rfl
theorem QhT(i){R1 l}[H1:EncL VM R1 l]:LP T (n+2) 46 2 (frm [(0,.imm 3 R1),(3,.i .i64 i)]) [] =
  Qbe (run (Q3 l) i) (fun(zr:Bool)=>(XE.ret,frm [(2,.b zr)],[])) (fun(zr:Unit)=>(XE.exit 0,frm [(0,.imm 3 (l.map VM))],[])):=by
 obtain⟨rfl⟩:=H1;rw[QK];simp -dsimp only[↓evA,evB,Qu,Tryz.func46,Tryz.f46,QFS,Qvb,TP,TZ,Nat.reduceAdd,Nat.reduceMul,Nat.reduceBEq,Nat.reduceLeDiff,Nat.reduceLT];apply QP i;intro i;simp -dsimp +contextual only[↓evA,eZ,Nat.reduceAdd,Nat.reduceMul,Nat.reduceBEq,Nat.reduceLeDiff,Nat.reduceLT,QM,QhS]
 try simp only[Q3,eY]
 all_goals rfl
theorem Qde{R1 l}[H1:EncL VM R1 l]:CP T (n+3) 46 [.imm 3 R1]=(V2 l).map fun r=>.b r:=by
 obtain⟨rfl⟩:=H1;rw[Qm];simp -dsimp +contextual only[↓evA,eZ,Nat.reduceAdd,Nat.reduceMul,Nat.reduceBEq,Nat.reduceLeDiff,Nat.reduceLT,Tryz.func46,Tryz.f46,QFS,Qvb,QhT]
 try simp only[V2,eY]
 all_goals rfl
theorem Qg6(i k){R1 l R2 a}[H1:EncL Vj R1 l][H2:EncR Vj R2 a]:LP T (n+1) 47 8 (frm [(0,.imm 5 R1),(3,.i .i64 i),(4,.ptr 0 0 0),(5,.i .i64 k)]) [some (Ent.box R2)] =
  Qbe (run (Xw l i a) k) (fun(zr:Bool)=>(XE.ret,frm [(2,.b zr)],[])) (fun(zr:Unit)=>(XE.exit 2,frm [(0,.imm 5 (l.map Vj)),(3,.i .i64 i)],[])):=by
 rcases H1,H2 with⟨⟨rfl⟩,⟨rfl⟩⟩
 rw[QK];simp -dsimp only[↓evA,evB,Qu,Tryz.func47,Tryz.f47,QFw,Qvp,TP,TZ,Nat.reduceAdd,Nat.reduceMul,Nat.reduceBEq,Nat.reduceLeDiff,Nat.reduceLT];apply QP k;intro k;simp -dsimp +contextual only[↓evA,eZ,Nat.reduceAdd,Nat.reduceMul,Nat.reduceBEq,Nat.reduceLeDiff,Nat.reduceLT]
 try simp only[Xw,eY]
 all_goals rfl
theorem QgX(i){R1 l}[H1:EncL Vj R1 l]:LP T (n+2) 47 2 (frm [(0,.imm 5 R1),(3,.i .i64 i)]) [] =
  Qbe (run (Q4 l) i) (fun(zr:Bool)=>(XE.ret,frm [(2,.b zr)],[])) (fun(zr:Unit)=>(XE.exit 0,frm [(0,.imm 5 (l.map Vj))],[])):=by
 obtain⟨rfl⟩:=H1;rw[QK];simp -dsimp only[↓evA,evB,Qu,Tryz.func47,Tryz.f47,QFw,Qvp,TP,TZ,Nat.reduceAdd,Nat.reduceMul,Nat.reduceBEq,Nat.reduceLeDiff,Nat.reduceLT];apply QP i;intro i;simp -dsimp +contextual only[↓evA,eZ,Nat.reduceAdd,Nat.reduceMul,Nat.reduceBEq,Nat.reduceLeDiff,Nat.reduceLT,QM,Qg6]
 try simp only[Q4,eY]
 all_goals rfl
theorem QcC{R1 l}[H1:EncL Vj R1 l]:CP T (n+3) 47 [.imm 5 R1]=(QF l).map fun r=>.b r:=by
 obtain⟨rfl⟩:=H1;rw[Qm];simp -dsimp +contextual only[↓evA,eZ,Nat.reduceAdd,Nat.reduceMul,Nat.reduceBEq,Nat.reduceLeDiff,Nat.reduceLT,Tryz.func47,Tryz.f47,QFw,Qvp,QgX]
 try simp only[QF,eY]
 all_goals rfl
theorem Ql3(a m):CP T (n+2) 228 [.i .i64 a,.i .i64 m]=(Qck a m).map fun r=>.i .i64 r:=by
 rw[Qm];simp -dsimp +contextual only[↓evA,eZ,Nat.reduceAdd,Nat.reduceMul,Nat.reduceBEq,Nat.reduceLeDiff,Nat.reduceLT,Tryz.func228,Tryz.f228,QN7,QsQ,QM]
 try simp only[Qck,eY]
 all_goals rfl
theorem Qlv(d i){R1 l}[H1:EncL Qj R1 l]:LP T (n+3) 174 3 (frm [(0,.imm 1 R1),(3,.i .i64 d),(4,.i .i64 i)]) [] =
  (run (V6 l) (d,i)).map (fun(zr:Int)=>(XE.exit 0,frm [(3,.i .i64 zr)],[])):=by
 obtain⟨rfl⟩:=H1;rw[QK];simp -dsimp only[↓evA,evB,Qu,Tryz.func174,Tryz.f174,QCJ,Qo5,TP,TZ,Nat.reduceAdd,Nat.reduceMul,Nat.reduceBEq,Nat.reduceLeDiff,Nat.reduceLT];apply Ve d i;intro d i;simp -dsimp +contextual only[↓evA,eZ,Nat.reduceAdd,Nat.reduceMul,Nat.reduceBEq,Nat.reduceLeDiff,Nat.reduceLT,Ql3]
 try simp only[V6,eY]
 all_goals rfl
theorem Qgj{R1 l}[H1:EncL Qj R1 l]:CP T (n+4) 174 [.imm 1 R1]=(Zp l).map fun r=>.i .i64 r:=by
 obtain⟨rfl⟩:=H1;rw[Qm];simp -dsimp +contextual only[↓evA,eZ,Nat.reduceAdd,Nat.reduceMul,Nat.reduceBEq,Nat.reduceLeDiff,Nat.reduceLT,Tryz.func174,Tryz.f174,QCJ,Qo5,Qlv]
 try simp only[Zp,eY]
 all_goals rfl
theorem QfG(b){R1 a}[H1:EncR J5 R1 a]:CP T (n+5) 104 [.i .i64 b,.agg R1]=(JS b a).map fun r=>.i .i64 r:=by
 obtain⟨rfl⟩:=H1;rw[Qm];simp -dsimp +contextual only[↓evA,eZ,Nat.reduceAdd,Nat.reduceMul,Nat.reduceBEq,Nat.reduceLeDiff,Nat.reduceLT,Tryz.func104,Tryz.f104,QHl,Qse,Qgj]
 try simp only[JS,eY]
 all_goals rfl
theorem Qi6(a b k i){R1 l}[H1:EncL J5 R1 l]:LP T (n+1) 105 3 (frm [(0,.imm 5 R1),(1,.i .i64 a),(2,.i .i64 b),(7,.i .i64 k),(8,.i .i64 i)]) [] =
  (run (JA l a b) (k,i)).map (fun(zr:Int)=>(XE.exit 0,frm [(7,.i .i64 zr)],[])):=by
 obtain⟨rfl⟩:=H1;rw[QK];simp -dsimp only[↓evA,evB,Qu,Tryz.func105,Tryz.f105,QCa,Qpm,TP,TZ,Nat.reduceAdd,Nat.reduceMul,Nat.reduceBEq,Nat.reduceLeDiff,Nat.reduceLT];apply Ve k i;intro k i;simp -dsimp +contextual only[↓evA,eZ,Nat.reduceAdd,Nat.reduceMul,Nat.reduceBEq,Nat.reduceLeDiff,Nat.reduceLT]
 try simp only[JA,eY]
 all_goals rfl
theorem Qgp(a b){R1 l}[H1:EncL J5 R1 l]:CP T (n+2) 105 [.imm 5 R1,.i .i64 a,.i .i64 b]=(Qa6 l a b).map fun r=>.i .i64 r:=by
 obtain⟨rfl⟩:=H1;rw[Qm];simp -dsimp +contextual only[↓evA,eZ,Nat.reduceAdd,Nat.reduceMul,Nat.reduceBEq,Nat.reduceLeDiff,Nat.reduceLT,Tryz.func105,Tryz.f105,QCa,Qpm,Qi6]
 try simp only[Qa6,eY]
 all_goals rfl
theorem QiS(s i){R1 l}[H1:EncL J5 R1 l]:LP T (n+6) 48 3 (frm [(0,.imm 5 R1),(3,.i .i64 s),(4,.i .i64 i)]) [] =
  Qbe (run (QC l) (s,i)) (fun(zr:Bool)=>(XE.ret,frm [(2,.b zr)],[])) (fun(zr:Unit)=>(XE.exit 0,frm [(0,.imm 5 (l.map J5))],[])):=by
 obtain⟨rfl⟩:=H1;rw[QK];simp -dsimp only[↓evA,evB,Qu,Tryz.func48,Tryz.f48,QL3,Qwe,TP,TZ,Nat.reduceAdd,Nat.reduceMul,Nat.reduceBEq,Nat.reduceLeDiff,Nat.reduceLT];apply Ve s i;intro s i;simp -dsimp +contextual only[↓evA,eZ,Nat.reduceAdd,Nat.reduceMul,Nat.reduceBEq,Nat.reduceLeDiff,Nat.reduceLT,QfG,QM,Qgp]
 try simp only[QC,eY]
 all_goals rfl
theorem QdF{R1 l}[H1:EncL J5 R1 l]:CP T (n+7) 48 [.imm 5 R1]=(Vv l).map fun r=>.b r:=by
 obtain⟨rfl⟩:=H1;rw[Qm];simp -dsimp +contextual only[↓evA,eZ,Nat.reduceAdd,Nat.reduceMul,Nat.reduceBEq,Nat.reduceLeDiff,Nat.reduceLT,Tryz.func48,Tryz.f48,QL3,Qwe,QiS]
 try simp only[Vv,eY]
 all_goals rfl
theorem Qgm(i){R1 l}[H1:EncL Jd R1 l]:LP T (n+2) 49 2 (frm [(0,.imm 4 R1),(3,.i .i64 i)]) [] =
  Qbe (run (Xe l) i) (fun(zr:Bool)=>(XE.ret,frm [(2,.b zr)],[])) (fun(zr:Unit)=>(XE.exit 0,frm [(0,.imm 4 (l.map Jd))],[])):=by
 obtain⟨rfl⟩:=H1;rw[QK];simp -dsimp only[↓evA,evB,Qu,Tryz.func49,Tryz.f49,QLA,QxW,TP,TZ,Nat.reduceAdd,Nat.reduceMul,Nat.reduceBEq,Nat.reduceLeDiff,Nat.reduceLT];apply QP i;intro i;simp -dsimp +contextual only[↓evA,eZ,Nat.reduceAdd,Nat.reduceMul,Nat.reduceBEq,Nat.reduceLeDiff,Nat.reduceLT,QM]
 try simp only[Xe,eY]
 all_goals rfl
theorem Qeb{R1 l}[H1:EncL Jd R1 l]:CP T (n+3) 49 [.imm 4 R1]=(V5 l).map fun r=>.b r:=by
 obtain⟨rfl⟩:=H1;rw[Qm];simp -dsimp +contextual only[↓evA,eZ,Nat.reduceAdd,Nat.reduceMul,Nat.reduceBEq,Nat.reduceLeDiff,Nat.reduceLT,Tryz.func49,Tryz.f49,QLA,QxW,Qgm]
 try simp only[V5,eY]
 all_goals rfl
theorem QkP(a k){R1 l}[H1:EncL Qj R1 l]:LP T (n+1) 175 2 (frm [(0,.imm 1 R1),(1,.i .i64 a),(5,.i .i64 k)]) [] =
  (run (JN l a) k).map (fun(zr:Int)=>(XE.exit 0,frm [(0,.imm 1 (l.map Qj)),(1,.i .i64 a),(5,.i .i64 zr)],[])):=by
 obtain⟨rfl⟩:=H1;rw[QK];simp -dsimp only[↓evA,evB,Qu,Tryz.func175,Tryz.f175,QCk,QpB,TP,TZ,Nat.reduceAdd,Nat.reduceMul,Nat.reduceBEq,Nat.reduceLeDiff,Nat.reduceLT];apply QP k;intro k;simp -dsimp +contextual only[↓evA,eZ,Nat.reduceAdd,Nat.reduceMul,Nat.reduceBEq,Nat.reduceLeDiff,Nat.reduceLT]
 try simp only[JN,eY]
 try simp only[List.contains_nil,Bool.not_false,Bool.and_true,VA,List.length_append,List.length_cons,List.length_nil,Nat.zero_add,VC,VT]
 all_goals rfl
theorem Qou(a){R1 l}[H1:EncL Qj R1 l]:CP T (n+2) 175 [.imm 1 R1,.i .i64 a]=(QbF l a).map fun r=>.own 1 (r.map Qj):=by
 obtain⟨rfl⟩:=H1;rw[Qm];simp -dsimp +contextual only[↓evA,eZ,Nat.reduceAdd,Nat.reduceMul,Nat.reduceBEq,Nat.reduceLeDiff,Nat.reduceLT,Tryz.func175,Tryz.f175,QCk,QpB,QkP]
 try simp only[QbF,eY]
 try simp only[List.contains_nil,Bool.not_false,Bool.and_true,VA,List.length_append,List.length_cons,List.length_nil,Nat.zero_add,VC,VT]
 all_goals first|rfl|(simp +contextual only[evN]<;>rfl)
theorem QiO(a i){R1 l R2 o}[H1:EncL J5 R1 l][H2:EncL Qj R2 o]:LP T (n+8) 106 3 (frm [(0,.imm 5 R1),(1,.i .i64 a),(5,.sl 0),(6,.i .i64 i)]) [some (Ent.lst 1 R2)] =
  (run (Zo l a) (o,i)).map (fun(zr:(List Int))=>(XE.exit 0,frm [(5,.sl 0)],[some (Ent.lst 1 (zr.map Qj))])):=by
 rcases H1,H2 with⟨⟨rfl⟩,⟨rfl⟩⟩
 rw[QK];simp -dsimp only[↓evA,evB,Qu,Tryz.func106,Tryz.f106,QCe,Qqz,TP,TZ,Nat.reduceAdd,Nat.reduceMul,Nat.reduceBEq,Nat.reduceLeDiff,Nat.reduceLT];apply Ve o i;intro o i;simp -dsimp +contextual only[↓evA,eZ,Nat.reduceAdd,Nat.reduceMul,Nat.reduceBEq,Nat.reduceLeDiff,Nat.reduceLT,QdF,Qgp,Qou]
 try simp only[Zo,eY]
 all_goals rfl
theorem Qlz(a){R1 l}[H1:EncL J5 R1 l]:CP T (n+9) 106 [.imm 5 R1,.i .i64 a]=(Qae l a).map fun r=>.own 1 (r.map Qj):=by
 obtain⟨rfl⟩:=H1;rw[Qm];simp -dsimp +contextual only[↓evA,eZ,Nat.reduceAdd,Nat.reduceMul,Nat.reduceBEq,Nat.reduceLeDiff,Nat.reduceLT,Tryz.func106,Tryz.f106,QCe,Qqz,QiO]
 try simp only[Qae,eY]
 all_goals first|rfl|(simp +contextual only[evN]<;>rfl)
theorem Qg1(i i2){R1 l}[H1:EncL QX R1 l]:LP T (n+1) 107 2 (frm [(0,.imm 8 R1),(1,.i .i64 i),(5,.i .i64 i2)]) [] =
  Qbe (run (Jm l i) i2) (fun(zr:Int)=>(XE.ret,frm [(4,.i .i64 zr)],[])) (fun(zr:Unit)=>(XE.exit 0,frm [],[])):=by
 obtain⟨rfl⟩:=H1;rw[QK];simp -dsimp only[↓evA,evB,Qu,Tryz.func107,Tryz.f107,QCn,QqB,TP,TZ,Nat.reduceAdd,Nat.reduceMul,Nat.reduceBEq,Nat.reduceLeDiff,Nat.reduceLT];apply QP i2;intro i2;simp -dsimp +contextual only[↓evA,eZ,Nat.reduceAdd,Nat.reduceMul,Nat.reduceBEq,Nat.reduceLeDiff,Nat.reduceLT]
 try simp only[Jm,eY]
 all_goals rfl
theorem JX(i){R1 l}[H1:EncL QX R1 l]:CP T (n+2) 107 [.imm 8 R1,.i .i64 i]=(VZ l i).map fun r=>.i .i64 r:=by
 obtain⟨rfl⟩:=H1;rw[Qm];simp -dsimp +contextual only[↓evA,eZ,Nat.reduceAdd,Nat.reduceMul,Nat.reduceBEq,Nat.reduceLeDiff,Nat.reduceLT,Tryz.func107,Tryz.f107,QCn,QqB,Qg1]
 try simp only[VZ,eY]
 all_goals rfl
theorem QjU(a i){R1 l}[H1:EncL VM R1 l]:LP T (n+1) 108 2 (frm [(0,.imm 3 R1),(1,.i .i64 a),(5,.i .i64 i)]) [] =
  Qbe (run (XF l a) i) (fun(zr:Int)=>(XE.ret,frm [(4,.i .i64 zr)],[])) (fun(zr:Unit)=>(XE.exit 0,frm [],[])):=by
 obtain⟨rfl⟩:=H1;rw[QK];simp -dsimp only[↓evA,evB,Qu,Tryz.func108,Tryz.f108,QCw,QpN,TP,TZ,Nat.reduceAdd,Nat.reduceMul,Nat.reduceBEq,Nat.reduceLeDiff,Nat.reduceLT];apply QP i;intro i;simp -dsimp +contextual only[↓evA,eZ,Nat.reduceAdd,Nat.reduceMul,Nat.reduceBEq,Nat.reduceLeDiff,Nat.reduceLT]
 try simp only[XF,eY]
 all_goals rfl
theorem Qbm(a){R1 l}[H1:EncL VM R1 l]:CP T (n+2) 108 [.imm 3 R1,.i .i64 a]=(XP l a).map fun r=>.i .i64 r:=by
 obtain⟨rfl⟩:=H1;rw[Qm];simp -dsimp +contextual only[↓evA,eZ,Nat.reduceAdd,Nat.reduceMul,Nat.reduceBEq,Nat.reduceLeDiff,Nat.reduceLT,Tryz.func108,Tryz.f108,QCw,QpN,QjU]
 try simp only[XP,eY]
 all_goals rfl
theorem Qkx(a i){R1 l}[H1:EncL Qj R1 l]:LP T (n+1) 109 2 (frm [(0,.imm 1 R1),(1,.i .i64 a),(5,.i .i64 i)]) [] =
  Qbe (run (QaB l a) i) (fun(zr:Bool)=>(XE.ret,frm [(4,.b zr)],[])) (fun(zr:Unit)=>(XE.exit 0,frm [],[])):=by
 obtain⟨rfl⟩:=H1;rw[QK];simp -dsimp only[↓evA,evB,Qu,Tryz.func109,Tryz.f109,QBN,Qqm,TP,TZ,Nat.reduceAdd,Nat.reduceMul,Nat.reduceBEq,Nat.reduceLeDiff,Nat.reduceLT];apply QP i;intro i;simp -dsimp +contextual only[↓evA,eZ,Nat.reduceAdd,Nat.reduceMul,Nat.reduceBEq,Nat.reduceLeDiff,Nat.reduceLT]
 try simp only[QaB,eY]
 all_goals rfl
theorem Qiw(a){R1 l}[H1:EncL Qj R1 l]:CP T (n+2) 109 [.imm 1 R1,.i .i64 a]=(QbL l a).map fun r=>.b r:=by
 obtain⟨rfl⟩:=H1;rw[Qm];simp -dsimp +contextual only[↓evA,eZ,Nat.reduceAdd,Nat.reduceMul,Nat.reduceBEq,Nat.reduceLeDiff,Nat.reduceLT,Tryz.func109,Tryz.f109,QBN,Qqm,Qkx]
 try simp only[QbL,eY]
 all_goals rfl
theorem QgS(i2){R1 a R2 i}[H1:EncR Q6 R1 a][H2:EncL Qj R2 i]:LP T (n+3) 50 5 (frm [(1,.ptr 0 0 0),(3,.sl 1),(4,.i .i64 i2)]) [some (Ent.box R1),some (Ent.lst 1 R2)] =
  Qbe (run (XG a i) i2) (fun(zr:Bool)=>(XE.ret,frm [(2,.b zr)],[])) (fun(zr:Unit)=>(XE.exit 0,frm [(1,.ptr 0 0 0),(3,.sl 1)],[some (Ent.box (Q6 a)),some (Ent.lst 1 (i.map Qj))])):=by
 rcases H1,H2 with⟨⟨rfl⟩,⟨rfl⟩⟩
 rw[QK];simp -dsimp only[↓evA,evB,Qu,Tryz.func50,Tryz.f50,QBy,Qrk,TP,TZ,Nat.reduceAdd,Nat.reduceMul,Nat.reduceBEq,Nat.reduceLeDiff,Nat.reduceLT];apply QP i2;intro i2;simp -dsimp +contextual (maxSteps:=100000000) only[↓evA,eZ,Nat.reduceAdd,Nat.reduceMul,Nat.reduceBEq,Nat.reduceLeDiff,Nat.reduceLT,JX]
 try simp only[XG,eY]
 all_goals rfl
theorem Qgx(i2){R1 a R2 i}[H1:EncR Q6 R1 a][H2:EncL Qj R2 i]:LP T (n+3) 50 10 (frm [(1,.ptr 0 0 0),(3,.sl 1),(5,.i .i64 i2)]) [some (Ent.box R1),some (Ent.lst 1 R2)] =
  Qbe (run (Xh a i) i2) (fun(zr:Bool)=>(XE.ret,frm [(2,.b zr)],[])) (fun(zr:Unit)=>(XE.exit 2,frm [(1,.ptr 0 0 0)],[some (Ent.box (Q6 a))])):=by
 rcases H1,H2 with⟨⟨rfl⟩,⟨rfl⟩⟩
 rw[QK];simp -dsimp only[↓evA,evB,Qu,Tryz.func50,Tryz.f50,QBy,Qrk,TP,TZ,Nat.reduceAdd,Nat.reduceMul,Nat.reduceBEq,Nat.reduceLeDiff,Nat.reduceLT];apply QP i2;intro i2;simp -dsimp +contextual (maxSteps:=100000000) only[↓evA,eZ,Nat.reduceAdd,Nat.reduceMul,Nat.reduceBEq,Nat.reduceLeDiff,Nat.reduceLT,Qbm,Qiw]
 try simp only[Xh,eY]
 all_goals rfl
theorem Qgg(i){R1 a}[H1:EncR Q6 R1 a]:LP T (n+3) 50 16 (frm [(1,.ptr 0 0 0),(7,.i .i64 i)]) [some (Ent.box R1)] =
  Qbe (run (Vi a) i) (fun(zr:Bool)=>(XE.ret,frm [(2,.b zr)],[])) (fun(zr:Unit)=>(XE.exit 4,frm [],[])):=by
 obtain⟨rfl⟩:=H1;rw[QK];simp -dsimp only[↓evA,evB,Qu,Tryz.func50,Tryz.f50,QBy,Qrk,TP,TZ,Nat.reduceAdd,Nat.reduceMul,Nat.reduceBEq,Nat.reduceLeDiff,Nat.reduceLT];apply QP i;intro i;simp -dsimp +contextual (maxSteps:=100000000) only[↓evA,eZ,Nat.reduceAdd,Nat.reduceMul,Nat.reduceBEq,Nat.reduceLeDiff,Nat.reduceLT,JX]
 try simp only[Vi,eY]
 all_goals rfl
theorem QjF{R1 a}[H1:EncR Q6 R1 a]:CP T (n+10) 50 [.agg R1]=(Je a).map fun r=>.b r:=by
 obtain⟨rfl⟩:=H1;rw[Qm];simp -dsimp +contextual (maxSteps:=100000000) only[↓evA,eZ,Nat.reduceAdd,Nat.reduceMul,Nat.reduceBEq,Nat.reduceLeDiff,Nat.reduceLT,Tryz.func50,Tryz.f50,QBy,Qrk,Qlz,QgS,Qgx,Qgg]
 try simp only[Je,eY]
 all_goals rfl
theorem Qgt{R1 a}[H1:EncR Jx R1 a]:CP T (n+2) 110 [.agg R1]=(Qad a).map fun r=>.b r:=by
 obtain⟨rfl⟩:=H1;rw[Qm];simp -dsimp +contextual only[↓evA,eZ,Nat.reduceAdd,Nat.reduceMul,Nat.reduceBEq,Nat.reduceLeDiff,Nat.reduceLT,Tryz.func110,Tryz.f110,QHu,Qs9,QM]
 try simp only[Qad,eY]
 all_goals rfl
theorem QiV(a i){R1 l}[H1:EncL Jt R1 l]:LP T (n+1) 177 2 (frm [(0,.imm 3 R1),(1,.i .i64 a),(5,.i .i64 i)]) [] =
  Qbe (run (Zq l a) i) (fun(zr:Int)=>(XE.ret,frm [(4,.i .i64 zr)],[])) (fun(zr:Unit)=>(XE.exit 0,frm [],[])):=by
 obtain⟨rfl⟩:=H1;rw[QK];simp -dsimp only[↓evA,evB,Qu,Tryz.func177,Tryz.f177,QBC,Qpd,TP,TZ,Nat.reduceAdd,Nat.reduceMul,Nat.reduceBEq,Nat.reduceLeDiff,Nat.reduceLT];apply QP i;intro i;simp -dsimp +contextual only[↓evA,eZ,Nat.reduceAdd,Nat.reduceMul,Nat.reduceBEq,Nat.reduceLeDiff,Nat.reduceLT]
 try simp only[Zq,eY]
 all_goals rfl
theorem QlQ(a){R1 l}[H1:EncL Jt R1 l]:CP T (n+2) 177 [.imm 3 R1,.i .i64 a]=(Qdn l a).map fun r=>.i .i64 r:=by
 obtain⟨rfl⟩:=H1;rw[Qm];simp -dsimp +contextual only[↓evA,eZ,Nat.reduceAdd,Nat.reduceMul,Nat.reduceBEq,Nat.reduceLeDiff,Nat.reduceLT,Tryz.func177,Tryz.f177,QBC,Qpd,QiV]
 try simp only[Qdn,eY]
 all_goals rfl
theorem Qga(a){R1 l}[H1:EncL Jt R1 l]:CP T (n+3) 112 [.imm 3 R1,.i .i64 a]=(QaV l a).map fun r=>.own 2 (r.map Zd):=by
 obtain⟨rfl⟩:=H1;rw[Qm];simp -dsimp +contextual only[↓evA,eZ,Nat.reduceAdd,Nat.reduceMul,Nat.reduceBEq,Nat.reduceLeDiff,Nat.reduceLT,Tryz.func112,Tryz.f112,QKp,Qsi,QlQ]
 try simp only[QaV,eY]
 all_goals first|rfl|(simp +contextual only[evN]<;>rfl)
theorem J4(a b):CP T (n+1) 157 [.i .i64 a,.i .i64 b]=(Qbr a b).map fun r=>.i .i64 r:=by
 rw[Qm];simp -dsimp +contextual only[↓evA,eZ,Nat.reduceAdd,Nat.reduceMul,Nat.reduceBEq,Nat.reduceLeDiff,Nat.reduceLT,Tryz.func157,Tryz.f157,QJQ,Qty]
 try simp only[Qbr,eY]
 all_goals rfl
theorem Qmy{R1 l}[H1:EncL Zd R1 l]:CP T (n+2) 176 [.imm 2 R1]=(Qb6 l).map fun r=>.i .i64 r:=by
 obtain⟨rfl⟩:=H1;rw[Qm];simp -dsimp +contextual only[↓evA,eZ,Nat.reduceAdd,Nat.reduceMul,Nat.reduceBEq,Nat.reduceLeDiff,Nat.reduceLT,Tryz.func176,Tryz.f176,QLY,QsW,J4]
 try simp only[Qb6,eY]
 all_goals rfl
theorem Qb5{R1 l R2 a}[H1:EncL Zd R1 l][H2:EncR Jx R2 a]:CP T (n+4) 111 [.imm 2 R1,.agg R2]=(JE l a).map fun r=>.i .i64 r:=by
 rcases H1,H2 with⟨⟨rfl⟩,⟨rfl⟩⟩
 rw[Qm];simp -dsimp +contextual only[↓evA,eZ,Nat.reduceAdd,Nat.reduceMul,Nat.reduceBEq,Nat.reduceLeDiff,Nat.reduceLT,Tryz.func111,Tryz.f111,QHT,Qtb,Qgt,Qdb,Qmy]
 try simp only[JE,eY]
 all_goals rfl
theorem Qha(i){R1 a}[H1:EncR Q6 R1 a]:LP T (n+5) 51 4 (frm [(1,.ptr 0 0 0),(3,.i .i64 i)]) [some (Ent.box R1)] =
  Qbe (run (Jn a) i) (fun(zr:Bool)=>(XE.ret,frm [(2,.b zr)],[])) (fun(zr:Unit)=>(XE.exit 0,frm [],[])):=by
 obtain⟨rfl⟩:=H1;rw[QK];simp -dsimp only[↓evA,evB,Qu,Tryz.func51,Tryz.f51,QMk,Qwn,TP,TZ,Nat.reduceAdd,Nat.reduceMul,Nat.reduceBEq,Nat.reduceLeDiff,Nat.reduceLT];apply QP i;intro i;simp -dsimp +contextual (maxSteps:=100000000) only[↓evA,eZ,Nat.reduceAdd,Nat.reduceMul,Nat.reduceBEq,Nat.reduceLeDiff,Nat.reduceLT,JX,Qgt,Qga,Qb5]
 try simp only[Jn,eY]
 all_goals rfl
theorem Qjk{R1 a}[H1:EncR Q6 R1 a]:CP T (n+6) 51 [.agg R1]=(Jk a).map fun r=>.b r:=by
 obtain⟨rfl⟩:=H1;rw[Qm];simp -dsimp +contextual (maxSteps:=100000000) only[↓evA,eZ,Nat.reduceAdd,Nat.reduceMul,Nat.reduceBEq,Nat.reduceLeDiff,Nat.reduceLT,Tryz.func51,Tryz.f51,QMk,Qwn,Qha]
 try simp only[Jk,eY]
 all_goals rfl
theorem ZX{R1 a}[H1:EncR Q6 R1 a]:CP T (n+11) 8 [.agg R1]=(QJ a).map fun r=>.b r:=by
 obtain⟨rfl⟩:=H1;rw[Qm];simp -dsimp +contextual (maxSteps:=100000000) only[↓evA,eZ,Nat.reduceAdd,Nat.reduceMul,Nat.reduceBEq,Nat.reduceLeDiff,Nat.reduceLT,Tryz.func8,Tryz.f8,Aa8,An8,QM,QfE,Qel,Qde,QcC,QdF,Qeb,QjF,Qjk]
 try simp only[QJ,eY]
 all_goals rfl
theorem Qg7(a i){R1 l}[H1:EncL VM R1 l]:LP T (n+1) 167 3 (frm [(0,.imm 3 R1),(3,.i .i64 a),(4,.i .i64 i)]) [] =
  (run (XD l) (a,i)).map (fun(zr:Int)=>(XE.exit 0,frm [(3,.i .i64 zr)],[])):=by
 obtain⟨rfl⟩:=H1;rw[QK];simp -dsimp only[↓evA,evB,Qu,Tryz.func167,Tryz.f167,QBX,Qqd,TP,TZ,Nat.reduceAdd,Nat.reduceMul,Nat.reduceBEq,Nat.reduceLeDiff,Nat.reduceLT];apply Ve a i;intro a i;simp -dsimp +contextual only[↓evA,eZ,Nat.reduceAdd,Nat.reduceMul,Nat.reduceBEq,Nat.reduceLeDiff,Nat.reduceLT]
 try simp only[XD,eY]
 all_goals rfl
theorem QjB{R1 l}[H1:EncL VM R1 l]:CP T (n+2) 167 [.imm 3 R1]=(QaL l).map fun r=>.i .i64 r:=by
 obtain⟨rfl⟩:=H1;rw[Qm];simp -dsimp +contextual only[↓evA,eZ,Nat.reduceAdd,Nat.reduceMul,Nat.reduceBEq,Nat.reduceLeDiff,Nat.reduceLT,Tryz.func167,Tryz.f167,QBX,Qqd,Qg7]
 try simp only[QaL,eY]
 all_goals rfl
theorem QkK(a){R1 s}[H1:EncL VM R1 s]:CP T (n+12) 90 [.i .i64 a,.imm 3 R1]=(Qbo a s).map fun r=>.tup [.agg (X8 r.1),.b r.2]:=by
 obtain⟨rfl⟩:=H1;rw[Qm];simp -dsimp +contextual (maxSteps:=100000000) only[↓evA,eZ,Nat.reduceAdd,Nat.reduceMul,Nat.reduceBEq,Nat.reduceLeDiff,Nat.reduceLT,Tryz.func90,Tryz.f90,QPO,Qy0,VB,ZX,QjB]
 try simp only[Qbo,eY]
 all_goals rfl
theorem Qfw{R1 c}[H1:EncR Qw R1 c]:CA T (n+13) 31 [some (Ent.box R1)] [.ptr 0 0 0]=(Qax c).map fun r=>(.agg [.i .i64 r.2.No,.sl 1,.sl 2,.sl 3,.sl 4,.sl 5,.sl 6,.sl 7,.i .i64 r.2.Now],[some (Ent.box (Qw r.1)),some (Ent.lst 8 (r.2.Finds.map QX)),some (Ent.lst 3 (r.2.Secrets.map Xl)),some (Ent.lst 3 (r.2.Slots.map VM)),some (Ent.lst 5 (r.2.Claims.map Vj)),some (Ent.lst 4 (r.2.Trials.map Jx)),some (Ent.lst 5 (r.2.Chain.map J5)),some (Ent.lst 4 (r.2.Book.map Jd))]):=by
 obtain⟨rfl⟩:=H1;rw[QaJ];simp -dsimp +contextual (maxSteps:=100000000) only[↓evA,eZ,Nat.reduceAdd,Nat.reduceMul,Nat.reduceBEq,Nat.reduceLeDiff,Nat.reduceLT,Tryz.func31,Tryz.f31,QQi,QAB,srt,Qo,QkM,QkK]
 try simp only[Qax,eY]
 all_goals rfl
theorem QmP(i){R1 c}[H1:EncR Qw R1 c]:CA T (n+3) 225 [some (Ent.box R1)] [.ptr 0 0 0,.i .i64 i]=(QcZ c i).map fun r=>(.agg (Qc3 r.2),[some (Ent.box (Qw r.1))]):=by
 obtain⟨rfl⟩:=H1;rw[QaJ];simp -dsimp +contextual (maxSteps:=100000000) only[↓evA,eZ,Nat.reduceAdd,Nat.reduceMul,Nat.reduceBEq,Nat.reduceLeDiff,Nat.reduceLT,Tryz.func225,Tryz.f225,QIR,QtN,srt,Qo]
 try simp only[QcZ,eY]
 all_goals rfl
theorem QmU(i){R1 c}[H1:EncR Qw R1 c]:CA T (n+4) 168 [some (Ent.box R1)] [.ptr 0 0 0,.i .i64 i]=(QcX c i).map fun r=>(.agg (QX r.2),[some (Ent.box (Qw r.1))]):=by
 obtain⟨rfl⟩:=H1;rw[QaJ];simp -dsimp +contextual (maxSteps:=100000000) only[↓evA,eZ,Nat.reduceAdd,Nat.reduceMul,Nat.reduceBEq,Nat.reduceLeDiff,Nat.reduceLT,Tryz.func168,Tryz.f168,QKQ,QsT,srt,QmP,Qo]
 try simp only[QcX,eY]
 all_goals rfl
theorem Zk{R1 c R2 l}[H1:EncR Qw R1 c][H2:EncL Qj R2 l]:CA T (n+3) 153 [some (Ent.box R1),some (Ent.lst 1 R2)] [.ptr 0 0 0,.sl 1]=(Vh c l).map fun r=>(.i .i64 r.2,[some (Ent.box (Qw r.1)),some (Ent.lst 1 (l.map Qj))]):=by
 rcases H1,H2 with⟨⟨rfl⟩,⟨rfl⟩⟩
 rw[QaJ];simp -dsimp +contextual (maxSteps:=100000000) only[↓evA,eZ,Nat.reduceAdd,Nat.reduceMul,Nat.reduceBEq,Nat.reduceLeDiff,Nat.reduceLT,Tryz.func153,Tryz.f153,QHV,QtZ,srt,Qo]
 try simp only[Vh,eY]
 all_goals rfl
theorem Qgd(i){R1 c}[H1:EncR Qw R1 c]:CA T (n+5) 92 [some (Ent.box R1)] [.ptr 0 0 0,.i .i64 i]=(Qab c i).map fun r=>(.agg [.i .i64 r.2.Kind,.i .i64 r.2.Find.Thing.Id,.i .i64 r.2.Find.Thing.Kind,.i .i64 r.2.Find.Thing.Colour,.i .i64 r.2.Find.Thing.Size,.i .i64 r.2.Find.Thing.Worth,.i .i64 r.2.Find.Place,.i .i64 r.2.Find.At,.i .i64 r.2.Find.Finder,.sl 1,.i .i64 r.2.Id,.i .i64 r.2.Who,.i .i64 r.2.N,.sl 2],[some (Ent.box (Qw r.1)),some (Ent.lst 2 (r.2.Marks.map Zd)),some (Ent.lst 3 (r.2.Bids.map Qbp))]):=by
 obtain⟨rfl⟩:=H1;rw[QaJ];simp -dsimp +contextual (maxSteps:=100000000) only[↓evA,eZ,Nat.reduceAdd,Nat.reduceMul,Nat.reduceBEq,Nat.reduceLeDiff,Nat.reduceLT,Tryz.func92,Tryz.f92,QPs,Qzg,srt,QmU,Qo,Zk]
 try simp only[Qab,eY]
 all_goals rfl
theorem Qlh(s w c):CP T (n+5) 226 [.i .i64 s,.i .i64 w,.i .i64 c]=(Qcp s w c).map fun r=>.i .i64 r:=by
 rw[Qm];simp -dsimp +contextual only[↓evA,eZ,Nat.reduceAdd,Nat.reduceMul,Nat.reduceBEq,Nat.reduceLeDiff,Nat.reduceLT,Tryz.func226,Tryz.f226,QHN,Qst,Qgj]
 try simp only[Qcp,eY]
 all_goals rfl
theorem QjE(i){R1 c R2 l}[H1:EncR Qw R1 c][H2:EncL Qbp R2 l]:LP T (n+6) 169 3 (frm [(0,.ptr 0 0 0),(3,.sl 1),(4,.i .i64 i)]) [some (Ent.box R1),some (Ent.lst 3 R2)] =
  (run ZZ (c,l,i)).map (fun(zr:l1Cur×(List Bid))=>(XE.exit 0,frm [(0,.ptr 0 0 0),(3,.sl 1)],[some (Ent.box (Qw zr.1)),some (Ent.lst 3 (zr.2.map Qbp))])):=by
 rcases H1,H2 with⟨⟨rfl⟩,⟨rfl⟩⟩
 rw[QK];simp -dsimp only[↓evA,evB,Qu,Tryz.func169,Tryz.f169,QCp,QqP,TP,TZ,Nat.reduceAdd,Nat.reduceMul,Nat.reduceBEq,Nat.reduceLeDiff,Nat.reduceLT];apply QdQ c l i;intro c l i;simp -dsimp +contextual only[↓evA,eZ,Nat.reduceAdd,Nat.reduceMul,Nat.reduceBEq,Nat.reduceLeDiff,Nat.reduceLT,srt,Qo,Qlh]
 try simp only[ZZ,eY]
 all_goals rfl
theorem QmR{R1 c}[H1:EncR Qw R1 c]:CA T (n+7) 169 [some (Ent.box R1)] [.ptr 0 0 0]=(QcW c).map fun r=>(.sl 1,[some (Ent.box (Qw r.1)),some (Ent.lst 3 (r.2.map Qbp))]):=by
 obtain⟨rfl⟩:=H1;rw[QaJ];simp -dsimp +contextual (maxSteps:=100000000) only[↓evA,eZ,Nat.reduceAdd,Nat.reduceMul,Nat.reduceBEq,Nat.reduceLeDiff,Nat.reduceLT,Tryz.func169,Tryz.f169,QCp,QqP,srt,Qo,Zk,QjE]
 try simp only[QcW,eY]
 all_goals rfl
end Go.Proofs.YtonidbheohhgdaaGreat
