import Derived.Test.YtonidbheohhgdaaGreatEc
namespace Go.Proofs.YtonidbheohhgdaaGreat
open Go Go.Proofs Go.Proofs.YtonidbheohhgdaaGreat.Am
set_option maxHeartbeats 4000000
set_option linter.unusedVariables false
set_option linter.unusedSimpArgs false
set_option linter.defProp false
set_option maxRecDepth 100000
variable(n:Nat)
theorem QrV{R1 c}[H1:EncL QbK R1 c]:CP T (n+1) 5 [.imm 1 R1]=(Qdy c).map fun r=>.b r:=by
 obtain⟨rfl⟩:=H1;rw[Qm];simp -dsimp +contextual only[↓evA,eZ,Nat.reduceAdd,Nat.reduceMul,Nat.reduceBEq,Nat.reduceLeDiff,Nat.reduceLT,Tryz.func5,Tryz.f5,Aa5,An5]
 try simp only[Qdy,eY]
 all_goals rfl
theorem Qkq(a i){R1 c}[H1:EncL QbK R1 c]:LP T (n+1) 30 3 (frm [(0,.imm 1 R1),(3,.i .i64 a),(4,.i .i64 i)]) [] =
  (run (JQ c) (a,i)).map (fun(zr:Int)=>(XE.exit 0,frm [(0,.imm 1 (c.map QbK)),(3,.i .i64 zr)],[])):=by
 obtain⟨rfl⟩:=H1;rw[QK];simp -dsimp only[↓evA,evB,Qu,Tryz.func30,Tryz.f30,QJd,Qxo,TP,TZ,Nat.reduceAdd,Nat.reduceMul,Nat.reduceBEq,Nat.reduceLeDiff,Nat.reduceLT];apply Vc a i;intro a i;simp -dsimp +contextual only[↓evA,eZ,Nat.reduceAdd,Nat.reduceMul,Nat.reduceBEq,Nat.reduceLeDiff,Nat.reduceLT]
 try simp only[JQ,eY]
 all_goals rfl
theorem Qfj{R1 c}[H1:EncL QbK R1 c]:CA T (n+2) 30 [] [.imm 1 R1]=(QbF c).map fun r=>(.ptr 0 0 0,[some (Ent.box (Qw r))]):=by
 obtain⟨rfl⟩:=H1;rw[QaG];simp -dsimp +contextual (maxSteps:=100000000) only[↓evA,eZ,Nat.reduceAdd,Nat.reduceMul,Nat.reduceBEq,Nat.reduceLeDiff,Nat.reduceLT,Tryz.func30,Tryz.f30,QJd,Qxo,Qkq]
 try simp only[QbF,eY]
 all_goals rfl
theorem QmK{R1 c}[H1:EncR Qw R1 c]:CA T (n+1) 149 [some (Ent.box R1)] [.ptr 0 0 0]=(Qaa c).map fun r=>(.i .i64 r.2,[some (Ent.box (Qw r.1))]):=by
 obtain⟨rfl⟩:=H1;rw[QaG];simp -dsimp +contextual (maxSteps:=100000000) only[↓evA,eZ,Nat.reduceAdd,Nat.reduceMul,Nat.reduceBEq,Nat.reduceLeDiff,Nat.reduceLT,Tryz.func149,Tryz.f149,QI5,Qtu]
 try simp only[Qaa,eY]
 all_goals rfl
theorem Qp(a){R1 c}[H1:EncR Qw R1 c]:CA T (n+2) 77 [some (Ent.box R1)] [.ptr 0 0 0,.i .i64 a]=(Qf c a).map fun r=>(.i .i64 r.2,[some (Ent.box (Qw r.1))]):=by
 obtain⟨rfl⟩:=H1;rw[QaG];simp -dsimp +contextual (maxSteps:=100000000) only[↓evA,eZ,Nat.reduceAdd,Nat.reduceMul,Nat.reduceBEq,Nat.reduceLeDiff,Nat.reduceLT,Tryz.func77,Tryz.f77,QQP,Qzy,srt,QmK]
 try simp only[Qf,eY]
 all_goals rfl
theorem QhD(i){R1 c R2 l}[H1:EncR Qw R1 c][H2:EncL VM R2 l]:LP T (n+3) 91 3 (frm [(0,.ptr 0 0 0),(3,.sl 1),(4,.i .i64 i)]) [some (Ent.box R1),some (Ent.lst 3 R2)] =
  (run JY (c,l,i)).map (fun(zr:l1Cur×(List Slot))=>(XE.exit 0,frm [(0,.ptr 0 0 0),(3,.sl 1)],[some (Ent.box (Qw zr.1)),some (Ent.lst 3 (zr.2.map VM))])):=by
 rcases H1,H2 with⟨⟨rfl⟩,⟨rfl⟩⟩
 rw[QK];simp -dsimp only[↓evA,evB,Qu,Tryz.func91,Tryz.f91,QMc,Qyl,TP,TZ,Nat.reduceAdd,Nat.reduceMul,Nat.reduceBEq,Nat.reduceLeDiff,Nat.reduceLT];apply QdK c l i;intro c l i;simp -dsimp +contextual only[↓evA,eZ,Nat.reduceAdd,Nat.reduceMul,Nat.reduceBEq,Nat.reduceLeDiff,Nat.reduceLT,srt,Qp]
 try simp only[JY,eY]
 all_goals rfl
theorem Qkz{R1 c}[H1:EncR Qw R1 c]:CA T (n+4) 91 [some (Ent.box R1)] [.ptr 0 0 0]=(Qbu c).map fun r=>(.sl 1,[some (Ent.box (Qw r.1)),some (Ent.lst 3 (r.2.map VM))]):=by
 obtain⟨rfl⟩:=H1;rw[QaG];simp -dsimp +contextual (maxSteps:=100000000) only[↓evA,eZ,Nat.reduceAdd,Nat.reduceMul,Nat.reduceBEq,Nat.reduceLeDiff,Nat.reduceLT,Tryz.func91,Tryz.f91,QMc,Qyl,srt,QhD]
 try simp only[Qbu,eY]
 all_goals rfl
theorem Qjc(i){R1 l R2 o}[H1:EncL Jl R1 l][H2:EncL Xl R2 o]:LP T (n+1) 207 3 (frm [(0,.imm 3 R1),(3,.sl 0),(4,.i .i64 i)]) [some (Ent.lst 3 R2)] =
  (run (JE l) (o,i)).map (fun(zr:(List Secret))=>(XE.exit 0,frm [(3,.sl 0)],[some (Ent.lst 3 (zr.map Xl))])):=by
 rcases H1,H2 with⟨⟨rfl⟩,⟨rfl⟩⟩
 rw[QK];simp -dsimp only[↓evA,evB,Qu,Tryz.func207,Tryz.f207,QCv,QqT,TP,TZ,Nat.reduceAdd,Nat.reduceMul,Nat.reduceBEq,Nat.reduceLeDiff,Nat.reduceLT];apply Vc o i;intro o i;simp -dsimp +contextual only[↓evA,eZ,Nat.reduceAdd,Nat.reduceMul,Nat.reduceBEq,Nat.reduceLeDiff,Nat.reduceLT]
 try simp only[JE,eY]
 all_goals rfl
theorem Qf5{R1 l}[H1:EncL Jl R1 l]:CP T (n+2) 207 [.imm 3 R1]=(V5 l).map fun r=>.own 3 (r.map Xl):=by
 obtain⟨rfl⟩:=H1;rw[Qm];simp -dsimp +contextual only[↓evA,eZ,Nat.reduceAdd,Nat.reduceMul,Nat.reduceBEq,Nat.reduceLeDiff,Nat.reduceLT,Tryz.func207,Tryz.f207,QCv,QqT,Qjc]
 try simp only[V5,eY]
 all_goals first|rfl|(simp +contextual only[evN]<;>rfl)
theorem VA{R1 a}[H1:EncR Q6 R1 a]:CP T (n+3) 150 [.agg R1]=(Q7 a).map fun r=>.agg (Ja r):=by
 obtain⟨rfl⟩:=H1;rw[Qm];simp -dsimp +contextual (maxSteps:=100000000) only[↓evA,eZ,Nat.reduceAdd,Nat.reduceMul,Nat.reduceBEq,Nat.reduceLeDiff,Nat.reduceLT,Tryz.func150,Tryz.f150,QGI,Qs4,Qf5]
 try simp only[Q7,eY]
 all_goals rfl
theorem QO(a l m):CP T (n+1) 43 [.i .i64 a,.i .i64 l,.i .i64 m]=(Qc a l m).map fun r=>.b r:=by
 rw[Qm];simp -dsimp +contextual only[↓evA,eZ,Nat.reduceAdd,Nat.reduceMul,Nat.reduceBEq,Nat.reduceLeDiff,Nat.reduceLT,Tryz.func43,Tryz.f43,QOk,Qy8]
 try simp only[Qc,eY]
 all_goals rfl
theorem QdJ{R1 a}[H1:EncR Qc3 R1 a]:CP T (n+2) 173 [.agg R1]=(Xx a).map fun r=>.b r:=by
 obtain⟨rfl⟩:=H1;rw[Qm];simp -dsimp +contextual only[↓evA,eZ,Nat.reduceAdd,Nat.reduceMul,Nat.reduceBEq,Nat.reduceLeDiff,Nat.reduceLT,Tryz.func173,Tryz.f173,QIb,Qso,QO]
 try simp only[Xx,eY]
 all_goals rfl
theorem QcP{R1 f}[H1:EncR QX R1 f]:CP T (n+3) 102 [.agg R1]=(Xo f).map fun r=>.b r:=by
 obtain⟨rfl⟩:=H1;rw[Qm];simp -dsimp +contextual only[↓evA,eZ,Nat.reduceAdd,Nat.reduceMul,Nat.reduceBEq,Nat.reduceLeDiff,Nat.reduceLT,Tryz.func102,Tryz.f102,QLO,QtY,QdJ,QO]
 try simp only[Xo,eY]
 all_goals rfl
theorem QhJ(i){R1 l}[H1:EncL QX R1 l]:LP T (n+4) 44 2 (frm [(0,.imm 8 R1),(3,.i .i64 i)]) [] =
  Qbe (run (QU l) i) (fun(zr:Bool)=>(XE.ret,frm [(2,.b zr)],[])) (fun(zr:Unit)=>(XE.exit 0,frm [(0,.imm 8 (l.map QX))],[])):=by
 obtain⟨rfl⟩:=H1;rw[QK];simp -dsimp only[↓evA,evB,Qu,Tryz.func44,Tryz.f44,QMY,Qxf,TP,TZ,Nat.reduceAdd,Nat.reduceMul,Nat.reduceBEq,Nat.reduceLeDiff,Nat.reduceLT];apply QM i;intro i;simp -dsimp +contextual only[↓evA,eZ,Nat.reduceAdd,Nat.reduceMul,Nat.reduceBEq,Nat.reduceLeDiff,Nat.reduceLT,QcP]
 try simp only[QU,eY]
 all_goals rfl
theorem QfF{R1 l}[H1:EncL QX R1 l]:CP T (n+5) 44 [.imm 8 R1]=(V0 l).map fun r=>.b r:=by
 obtain⟨rfl⟩:=H1;rw[Qm];simp -dsimp +contextual only[↓evA,eZ,Nat.reduceAdd,Nat.reduceMul,Nat.reduceBEq,Nat.reduceLeDiff,Nat.reduceLT,Tryz.func44,Tryz.f44,QMY,Qxf,QhJ]
 try simp only[V0,eY]
 all_goals rfl
theorem QhR(i){R1 l}[H1:EncL J8 R1 l]:LP T (n+2) 103 2 (frm [(0,.imm 2 R1),(3,.i .i64 i)]) [] =
  Qbe (run (JX l) i) (fun(zr:Bool)=>(XE.ret,frm [(2,.b zr)],[])) (fun(zr:Unit)=>(XE.exit 0,frm [(0,.imm 2 (l.map J8))],[])):=by
 obtain⟨rfl⟩:=H1;rw[QK];simp -dsimp only[↓evA,evB,Qu,Tryz.func103,Tryz.f103,QBQ,Qqv,TP,TZ,Nat.reduceAdd,Nat.reduceMul,Nat.reduceBEq,Nat.reduceLeDiff,Nat.reduceLT];apply QM i;intro i;simp -dsimp +contextual only[↓evA,eZ,Nat.reduceAdd,Nat.reduceMul,Nat.reduceBEq,Nat.reduceLeDiff,Nat.reduceLT,QO]
 try simp only[JX,eY]
 all_goals rfl
theorem Qde{R1 l}[H1:EncL J8 R1 l]:CP T (n+3) 103 [.imm 2 R1]=(QaB l).map fun r=>.b r:=by
 obtain⟨rfl⟩:=H1;rw[Qm];simp -dsimp +contextual only[↓evA,eZ,Nat.reduceAdd,Nat.reduceMul,Nat.reduceBEq,Nat.reduceLeDiff,Nat.reduceLT,Tryz.func103,Tryz.f103,QBQ,Qqv,QhR]
 try simp only[QaB,eY]
 all_goals rfl
theorem Qf4(i){R1 l}[H1:EncL Jl R1 l]:LP T (n+4) 45 2 (frm [(0,.imm 3 R1),(3,.i .i64 i)]) [] =
  Qbe (run (Xh l) i) (fun(zr:Bool)=>(XE.ret,frm [(2,.b zr)],[])) (fun(zr:Unit)=>(XE.exit 0,frm [(0,.imm 3 (l.map Jl))],[])):=by
 obtain⟨rfl⟩:=H1;rw[QK];simp -dsimp only[↓evA,evB,Qu,Tryz.func45,Tryz.f45,QNE,QvI,TP,TZ,Nat.reduceAdd,Nat.reduceMul,Nat.reduceBEq,Nat.reduceLeDiff,Nat.reduceLT];apply QM i;intro i;simp -dsimp +contextual only[↓evA,eZ,Nat.reduceAdd,Nat.reduceMul,Nat.reduceBEq,Nat.reduceLeDiff,Nat.reduceLT,QO,Qde]
 try simp only[Xh,eY]
 all_goals rfl
theorem Qeq{R1 l}[H1:EncL Jl R1 l]:CP T (n+5) 45 [.imm 3 R1]=(V7 l).map fun r=>.b r:=by
 obtain⟨rfl⟩:=H1;rw[Qm];simp -dsimp +contextual only[↓evA,eZ,Nat.reduceAdd,Nat.reduceMul,Nat.reduceBEq,Nat.reduceLeDiff,Nat.reduceLT,Tryz.func45,Tryz.f45,QNE,QvI,Qf4]
 try simp only[V7,eY]
 all_goals rfl
theorem Qhy(i k){R1 l}[H1:EncL VM R1 l]:LP T (n+1) 46 7 (frm [(0,.imm 3 R1),(3,.i .i64 i),(4,.i .i64 k)]) [] =
  Qbe (run (Vq l i) k) (fun(zr:Bool)=>(XE.ret,frm [(2,.b zr)],[])) (fun(zr:Unit)=>(XE.exit 2,frm [(0,.imm 3 (l.map VM)),(3,.i .i64 i)],[])):=by
 obtain⟨rfl⟩:=H1;rw[QK];simp -dsimp only[↓evA,evB,Qu,Tryz.func46,Tryz.f46,QCK,Qvf,TP,TZ,Nat.reduceAdd,Nat.reduceMul,Nat.reduceBEq,Nat.reduceLeDiff,Nat.reduceLT];apply QM k;intro k;simp -dsimp +contextual only[↓evA,eZ,Nat.reduceAdd,Nat.reduceMul,Nat.reduceBEq,Nat.reduceLeDiff,Nat.reduceLT]
 try simp only[Vq,eY]
 all_goals rfl
theorem QhX(i){R1 l}[H1:EncL VM R1 l]:LP T (n+2) 46 2 (frm [(0,.imm 3 R1),(3,.i .i64 i)]) [] =
  Qbe (run (Q3 l) i) (fun(zr:Bool)=>(XE.ret,frm [(2,.b zr)],[])) (fun(zr:Unit)=>(XE.exit 0,frm [(0,.imm 3 (l.map VM))],[])):=by
 obtain⟨rfl⟩:=H1;rw[QK];simp -dsimp only[↓evA,evB,Qu,Tryz.func46,Tryz.f46,QCK,Qvf,TP,TZ,Nat.reduceAdd,Nat.reduceMul,Nat.reduceBEq,Nat.reduceLeDiff,Nat.reduceLT];apply QM i;intro i;simp -dsimp +contextual only[↓evA,eZ,Nat.reduceAdd,Nat.reduceMul,Nat.reduceBEq,Nat.reduceLeDiff,Nat.reduceLT,QO,Qhy]
 try simp only[Q3,eY]
 all_goals rfl
theorem Qdc{R1 l}[H1:EncL VM R1 l]:CP T (n+3) 46 [.imm 3 R1]=(V1 l).map fun r=>.b r:=by
 obtain⟨rfl⟩:=H1;rw[Qm];simp -dsimp +contextual only[↓evA,eZ,Nat.reduceAdd,Nat.reduceMul,Nat.reduceBEq,Nat.reduceLeDiff,Nat.reduceLT,Tryz.func46,Tryz.f46,QCK,Qvf,QhX]
 try simp only[V1,eY]
 all_goals rfl
theorem Qg3(i k){R1 l R2 a}[H1:EncL Vk R1 l][H2:EncR Vk R2 a]:LP T (n+1) 47 8 (frm [(0,.imm 5 R1),(3,.i .i64 i),(4,.ptr 0 0 0),(5,.i .i64 k)]) [some (Ent.box R2)] =
  Qbe (run (Xv l i a) k) (fun(zr:Bool)=>(XE.ret,frm [(2,.b zr)],[])) (fun(zr:Unit)=>(XE.exit 2,frm [(0,.imm 5 (l.map Vk)),(3,.i .i64 i)],[])):=by
 rcases H1,H2 with⟨⟨rfl⟩,⟨rfl⟩⟩
 rw[QK];simp -dsimp only[↓evA,evB,Qu,Tryz.func47,Tryz.f47,QDX,QuH,TP,TZ,Nat.reduceAdd,Nat.reduceMul,Nat.reduceBEq,Nat.reduceLeDiff,Nat.reduceLT];apply QM k;intro k;simp -dsimp +contextual only[↓evA,eZ,Nat.reduceAdd,Nat.reduceMul,Nat.reduceBEq,Nat.reduceLeDiff,Nat.reduceLT]
 try simp only[Xv,eY]
 all_goals rfl
theorem QgS(i){R1 l}[H1:EncL Vk R1 l]:LP T (n+2) 47 2 (frm [(0,.imm 5 R1),(3,.i .i64 i)]) [] =
  Qbe (run (Q4 l) i) (fun(zr:Bool)=>(XE.ret,frm [(2,.b zr)],[])) (fun(zr:Unit)=>(XE.exit 0,frm [(0,.imm 5 (l.map Vk))],[])):=by
 obtain⟨rfl⟩:=H1;rw[QK];simp -dsimp only[↓evA,evB,Qu,Tryz.func47,Tryz.f47,QDX,QuH,TP,TZ,Nat.reduceAdd,Nat.reduceMul,Nat.reduceBEq,Nat.reduceLeDiff,Nat.reduceLT];apply QM i;intro i;simp -dsimp +contextual only[↓evA,eZ,Nat.reduceAdd,Nat.reduceMul,Nat.reduceBEq,Nat.reduceLeDiff,Nat.reduceLT,QO,Qg3]
 try simp only[Q4,eY]
 all_goals rfl
theorem QcJ{R1 l}[H1:EncL Vk R1 l]:CP T (n+3) 47 [.imm 5 R1]=(QF l).map fun r=>.b r:=by
 obtain⟨rfl⟩:=H1;rw[Qm];simp -dsimp +contextual only[↓evA,eZ,Nat.reduceAdd,Nat.reduceMul,Nat.reduceBEq,Nat.reduceLeDiff,Nat.reduceLT,Tryz.func47,Tryz.f47,QDX,QuH,QgS]
 try simp only[QF,eY]
 all_goals rfl
theorem Qmj(a m):CP T (n+2) 228 [.i .i64 a,.i .i64 m]=(Qck a m).map fun r=>.i .i64 r:=by
 rw[Qm];simp -dsimp +contextual only[↓evA,eZ,Nat.reduceAdd,Nat.reduceMul,Nat.reduceBEq,Nat.reduceLeDiff,Nat.reduceLT,Tryz.func228,Tryz.f228,QHR,QtX,QO]
 try simp only[Qck,eY]
 all_goals rfl
theorem Ql3(d i){R1 l}[H1:EncL Qi R1 l]:LP T (n+3) 174 3 (frm [(0,.imm 1 R1),(3,.i .i64 d),(4,.i .i64 i)]) [] =
  (run (V6 l) (d,i)).map (fun(zr:Int)=>(XE.exit 0,frm [(3,.i .i64 zr)],[])):=by
 obtain⟨rfl⟩:=H1;rw[QK];simp -dsimp only[↓evA,evB,Qu,Tryz.func174,Tryz.f174,QB2,Qo1,TP,TZ,Nat.reduceAdd,Nat.reduceMul,Nat.reduceBEq,Nat.reduceLeDiff,Nat.reduceLT];apply Vc d i;intro d i;simp -dsimp +contextual only[↓evA,eZ,Nat.reduceAdd,Nat.reduceMul,Nat.reduceBEq,Nat.reduceLeDiff,Nat.reduceLT,Qmj]
 try simp only[V6,eY]
 all_goals rfl
theorem Qgc{R1 l}[H1:EncL Qi R1 l]:CP T (n+4) 174 [.imm 1 R1]=(Zh l).map fun r=>.i .i64 r:=by
 obtain⟨rfl⟩:=H1;rw[Qm];simp -dsimp +contextual only[↓evA,eZ,Nat.reduceAdd,Nat.reduceMul,Nat.reduceBEq,Nat.reduceLeDiff,Nat.reduceLT,Tryz.func174,Tryz.f174,QB2,Qo1,Ql3]
 try simp only[Zh,eY]
 all_goals rfl
theorem Qfv(b){R1 a}[H1:EncR Zc R1 a]:CP T (n+5) 104 [.i .i64 b,.agg R1]=(JO b a).map fun r=>.i .i64 r:=by
 obtain⟨rfl⟩:=H1;rw[Qm];simp -dsimp +contextual only[↓evA,eZ,Nat.reduceAdd,Nat.reduceMul,Nat.reduceBEq,Nat.reduceLeDiff,Nat.reduceLT,Tryz.func104,Tryz.f104,QIR,Qth,Qgc]
 try simp only[JO,eY]
 all_goals rfl
theorem Qh9(a b k i){R1 l}[H1:EncL Zc R1 l]:LP T (n+1) 105 3 (frm [(0,.imm 5 R1),(1,.i .i64 a),(2,.i .i64 b),(7,.i .i64 k),(8,.i .i64 i)]) [] =
  (run (JA l a b) (k,i)).map (fun(zr:Int)=>(XE.exit 0,frm [(7,.i .i64 zr)],[])):=by
 obtain⟨rfl⟩:=H1;rw[QK];simp -dsimp only[↓evA,evB,Qu,Tryz.func105,Tryz.f105,QCb,QpR,TP,TZ,Nat.reduceAdd,Nat.reduceMul,Nat.reduceBEq,Nat.reduceLeDiff,Nat.reduceLT];apply Vc k i;intro k i;simp -dsimp +contextual only[↓evA,eZ,Nat.reduceAdd,Nat.reduceMul,Nat.reduceBEq,Nat.reduceLeDiff,Nat.reduceLT]
 try simp only[JA,eY]
 all_goals rfl
theorem Qga(a b){R1 l}[H1:EncL Zc R1 l]:CP T (n+2) 105 [.imm 5 R1,.i .i64 a,.i .i64 b]=(Qa4 l a b).map fun r=>.i .i64 r:=by
 obtain⟨rfl⟩:=H1;rw[Qm];simp -dsimp +contextual only[↓evA,eZ,Nat.reduceAdd,Nat.reduceMul,Nat.reduceBEq,Nat.reduceLeDiff,Nat.reduceLT,Tryz.func105,Tryz.f105,QCb,QpR,Qh9]
 try simp only[Qa4,eY]
 all_goals rfl
theorem Qib(s i){R1 l}[H1:EncL Zc R1 l]:LP T (n+6) 48 3 (frm [(0,.imm 5 R1),(3,.i .i64 s),(4,.i .i64 i)]) [] =
  Qbe (run (QC l) (s,i)) (fun(zr:Bool)=>(XE.ret,frm [(2,.b zr)],[])) (fun(zr:Unit)=>(XE.exit 0,frm [(0,.imm 5 (l.map Zc))],[])):=by
 obtain⟨rfl⟩:=H1;rw[QK];simp -dsimp only[↓evA,evB,Qu,Tryz.func48,Tryz.f48,QHr,QxW,TP,TZ,Nat.reduceAdd,Nat.reduceMul,Nat.reduceBEq,Nat.reduceLeDiff,Nat.reduceLT];apply Vc s i;intro s i;simp -dsimp +contextual only[↓evA,eZ,Nat.reduceAdd,Nat.reduceMul,Nat.reduceBEq,Nat.reduceLeDiff,Nat.reduceLT,Qfv,QO,Qga]
 try simp only[QC,eY]
 all_goals rfl
theorem QdI{R1 l}[H1:EncL Zc R1 l]:CP T (n+7) 48 [.imm 5 R1]=(Vx l).map fun r=>.b r:=by
 obtain⟨rfl⟩:=H1;rw[Qm];simp -dsimp +contextual only[↓evA,eZ,Nat.reduceAdd,Nat.reduceMul,Nat.reduceBEq,Nat.reduceLeDiff,Nat.reduceLT,Tryz.func48,Tryz.f48,QHr,QxW,Qib]
 try simp only[Vx,eY]
 all_goals rfl
theorem Qgy(i){R1 l}[H1:EncL Jk R1 l]:LP T (n+2) 49 2 (frm [(0,.imm 4 R1),(3,.i .i64 i)]) [] =
  Qbe (run (Xi l) i) (fun(zr:Bool)=>(XE.ret,frm [(2,.b zr)],[])) (fun(zr:Unit)=>(XE.exit 0,frm [(0,.imm 4 (l.map Jk))],[])):=by
 obtain⟨rfl⟩:=H1;rw[QK];simp -dsimp only[↓evA,evB,Qu,Tryz.func49,Tryz.f49,QJq,QxO,TP,TZ,Nat.reduceAdd,Nat.reduceMul,Nat.reduceBEq,Nat.reduceLeDiff,Nat.reduceLT];apply QM i;intro i;simp -dsimp +contextual only[↓evA,eZ,Nat.reduceAdd,Nat.reduceMul,Nat.reduceBEq,Nat.reduceLeDiff,Nat.reduceLT,QO]
 try simp only[Xi,eY]
 all_goals rfl
theorem Qem{R1 l}[H1:EncL Jk R1 l]:CP T (n+3) 49 [.imm 4 R1]=(Xa l).map fun r=>.b r:=by
 obtain⟨rfl⟩:=H1;rw[Qm];simp -dsimp +contextual only[↓evA,eZ,Nat.reduceAdd,Nat.reduceMul,Nat.reduceBEq,Nat.reduceLeDiff,Nat.reduceLT,Tryz.func49,Tryz.f49,QJq,QxO,Qgy]
 try simp only[Xa,eY]
 all_goals rfl
theorem Qkx(a k){R1 l}[H1:EncL Qi R1 l]:LP T (n+1) 175 2 (frm [(0,.imm 1 R1),(1,.i .i64 a),(5,.i .i64 k)]) [] =
  (run (JM l a) k).map (fun(zr:Int)=>(XE.exit 0,frm [(0,.imm 1 (l.map Qi)),(1,.i .i64 a),(5,.i .i64 zr)],[])):=by
 obtain⟨rfl⟩:=H1;rw[QK];simp -dsimp only[↓evA,evB,Qu,Tryz.func175,Tryz.f175,QBH,QpY,TP,TZ,Nat.reduceAdd,Nat.reduceMul,Nat.reduceBEq,Nat.reduceLeDiff,Nat.reduceLT];apply QM k;intro k;simp -dsimp +contextual only[↓evA,eZ,Nat.reduceAdd,Nat.reduceMul,Nat.reduceBEq,Nat.reduceLeDiff,Nat.reduceLT]
 try simp only[JM,eY]
 try simp only[List.contains_nil,Bool.not_false,Bool.and_true,Vz,List.length_append,List.length_cons,List.length_nil,Nat.zero_add,VD,VT]
 all_goals rfl
theorem Qow(a){R1 l}[H1:EncL Qi R1 l]:CP T (n+2) 175 [.imm 1 R1,.i .i64 a]=(QbL l a).map fun r=>.own 1 (r.map Qi):=by
 obtain⟨rfl⟩:=H1;rw[Qm];simp -dsimp +contextual only[↓evA,eZ,Nat.reduceAdd,Nat.reduceMul,Nat.reduceBEq,Nat.reduceLeDiff,Nat.reduceLT,Tryz.func175,Tryz.f175,QBH,QpY,Qkx]
 try simp only[QbL,eY]
 try simp only[List.contains_nil,Bool.not_false,Bool.and_true,Vz,List.length_append,List.length_cons,List.length_nil,Nat.zero_add,VD,VT]
 all_goals first|rfl|(simp +contextual only[evN]<;>rfl)
theorem QiT(a i){R1 l R2 o}[H1:EncL Zc R1 l][H2:EncL Qi R2 o]:LP T (n+8) 106 3 (frm [(0,.imm 5 R1),(1,.i .i64 a),(5,.sl 0),(6,.i .i64 i)]) [some (Ent.lst 1 R2)] =
  (run (Zi l a) (o,i)).map (fun(zr:(List Int))=>(XE.exit 0,frm [(5,.sl 0)],[some (Ent.lst 1 (zr.map Qi))])):=by
 rcases H1,H2 with⟨⟨rfl⟩,⟨rfl⟩⟩
 rw[QK];simp -dsimp only[↓evA,evB,Qu,Tryz.func106,Tryz.f106,QBG,QqP,TP,TZ,Nat.reduceAdd,Nat.reduceMul,Nat.reduceBEq,Nat.reduceLeDiff,Nat.reduceLT];apply Vc o i;intro o i;simp -dsimp +contextual only[↓evA,eZ,Nat.reduceAdd,Nat.reduceMul,Nat.reduceBEq,Nat.reduceLeDiff,Nat.reduceLT,QdI,Qga,Qow]
 try simp only[Zi,eY]
 all_goals rfl
theorem Qmp(a){R1 l}[H1:EncL Zc R1 l]:CP T (n+9) 106 [.imm 5 R1,.i .i64 a]=(Qaf l a).map fun r=>.own 1 (r.map Qi):=by
 obtain⟨rfl⟩:=H1;rw[Qm];simp -dsimp +contextual only[↓evA,eZ,Nat.reduceAdd,Nat.reduceMul,Nat.reduceBEq,Nat.reduceLeDiff,Nat.reduceLT,Tryz.func106,Tryz.f106,QBG,QqP,QiT]
 try simp only[Qaf,eY]
 all_goals first|rfl|(simp +contextual only[evN]<;>rfl)
theorem QgV(i i2){R1 l}[H1:EncL QX R1 l]:LP T (n+1) 107 2 (frm [(0,.imm 8 R1),(1,.i .i64 i),(5,.i .i64 i2)]) [] =
  Qbe (run (Jo l i) i2) (fun(zr:Int)=>(XE.ret,frm [(4,.i .i64 zr)],[])) (fun(zr:Unit)=>(XE.exit 0,frm [],[])):=by
 obtain⟨rfl⟩:=H1;rw[QK];simp -dsimp only[↓evA,evB,Qu,Tryz.func107,Tryz.f107,QB8,QqI,TP,TZ,Nat.reduceAdd,Nat.reduceMul,Nat.reduceBEq,Nat.reduceLeDiff,Nat.reduceLT];apply QM i2;intro i2;simp -dsimp +contextual only[↓evA,eZ,Nat.reduceAdd,Nat.reduceMul,Nat.reduceBEq,Nat.reduceLeDiff,Nat.reduceLT]
 try simp only[Jo,eY]
 all_goals rfl
theorem J3(i){R1 l}[H1:EncL QX R1 l]:CP T (n+2) 107 [.imm 8 R1,.i .i64 i]=(V3 l i).map fun r=>.i .i64 r:=by
 obtain⟨rfl⟩:=H1;rw[Qm];simp -dsimp +contextual only[↓evA,eZ,Nat.reduceAdd,Nat.reduceMul,Nat.reduceBEq,Nat.reduceLeDiff,Nat.reduceLT,Tryz.func107,Tryz.f107,QB8,QqI,QgV]
 try simp only[V3,eY]
 all_goals rfl
theorem Qjn(a i){R1 l}[H1:EncL VM R1 l]:LP T (n+1) 108 2 (frm [(0,.imm 3 R1),(1,.i .i64 a),(5,.i .i64 i)]) [] =
  Qbe (run (XF l a) i) (fun(zr:Int)=>(XE.ret,frm [(4,.i .i64 zr)],[])) (fun(zr:Unit)=>(XE.exit 0,frm [],[])):=by
 obtain⟨rfl⟩:=H1;rw[QK];simp -dsimp only[↓evA,evB,Qu,Tryz.func108,Tryz.f108,QB1,QqO,TP,TZ,Nat.reduceAdd,Nat.reduceMul,Nat.reduceBEq,Nat.reduceLeDiff,Nat.reduceLT];apply QM i;intro i;simp -dsimp +contextual only[↓evA,eZ,Nat.reduceAdd,Nat.reduceMul,Nat.reduceBEq,Nat.reduceLeDiff,Nat.reduceLT]
 try simp only[XF,eY]
 all_goals rfl
theorem Qbq(a){R1 l}[H1:EncL VM R1 l]:CP T (n+2) 108 [.imm 3 R1,.i .i64 a]=(XO l a).map fun r=>.i .i64 r:=by
 obtain⟨rfl⟩:=H1;rw[Qm];simp -dsimp +contextual only[↓evA,eZ,Nat.reduceAdd,Nat.reduceMul,Nat.reduceBEq,Nat.reduceLeDiff,Nat.reduceLT,Tryz.func108,Tryz.f108,QB1,QqO,Qjn]
 try simp only[XO,eY]
 all_goals rfl
theorem QkA(a i){R1 l}[H1:EncL Qi R1 l]:LP T (n+1) 109 2 (frm [(0,.imm 1 R1),(1,.i .i64 a),(5,.i .i64 i)]) [] =
  Qbe (run (Qaz l a) i) (fun(zr:Bool)=>(XE.ret,frm [(4,.b zr)],[])) (fun(zr:Unit)=>(XE.exit 0,frm [],[])):=by
 obtain⟨rfl⟩:=H1;rw[QK];simp -dsimp only[↓evA,evB,Qu,Tryz.func109,Tryz.f109,QCm,QpG,TP,TZ,Nat.reduceAdd,Nat.reduceMul,Nat.reduceBEq,Nat.reduceLeDiff,Nat.reduceLT];apply QM i;intro i;simp -dsimp +contextual only[↓evA,eZ,Nat.reduceAdd,Nat.reduceMul,Nat.reduceBEq,Nat.reduceLeDiff,Nat.reduceLT]
 try simp only[Qaz,eY]
 all_goals rfl
theorem Qia(a){R1 l}[H1:EncL Qi R1 l]:CP T (n+2) 109 [.imm 1 R1,.i .i64 a]=(QbN l a).map fun r=>.b r:=by
 obtain⟨rfl⟩:=H1;rw[Qm];simp -dsimp +contextual only[↓evA,eZ,Nat.reduceAdd,Nat.reduceMul,Nat.reduceBEq,Nat.reduceLeDiff,Nat.reduceLT,Tryz.func109,Tryz.f109,QCm,QpG,QkA]
 try simp only[QbN,eY]
 all_goals rfl
theorem Qg2(i2){R1 a R2 i}[H1:EncR Q6 R1 a][H2:EncL Qi R2 i]:LP T (n+3) 50 5 (frm [(1,.ptr 0 0 0),(3,.sl 1),(4,.i .i64 i2)]) [some (Ent.box R1),some (Ent.lst 1 R2)] =
  Qbe (run (XA a i) i2) (fun(zr:Bool)=>(XE.ret,frm [(2,.b zr)],[])) (fun(zr:Unit)=>(XE.exit 0,frm [(1,.ptr 0 0 0),(3,.sl 1)],[some (Ent.box (Q6 a)),some (Ent.lst 1 (i.map Qi))])):=by
 rcases H1,H2 with⟨⟨rfl⟩,⟨rfl⟩⟩
 rw[QK];simp -dsimp only[↓evA,evB,Qu,Tryz.func50,Tryz.f50,QAV,Qry,TP,TZ,Nat.reduceAdd,Nat.reduceMul,Nat.reduceBEq,Nat.reduceLeDiff,Nat.reduceLT];apply QM i2;intro i2;simp -dsimp +contextual (maxSteps:=100000000) only[↓evA,eZ,Nat.reduceAdd,Nat.reduceMul,Nat.reduceBEq,Nat.reduceLeDiff,Nat.reduceLT,J3]
 try simp only[XA,eY]
 all_goals rfl
theorem Qgw(i2){R1 a R2 i}[H1:EncR Q6 R1 a][H2:EncL Qi R2 i]:LP T (n+3) 50 10 (frm [(1,.ptr 0 0 0),(3,.sl 1),(5,.i .i64 i2)]) [some (Ent.box R1),some (Ent.lst 1 R2)] =
  Qbe (run (Xe a i) i2) (fun(zr:Bool)=>(XE.ret,frm [(2,.b zr)],[])) (fun(zr:Unit)=>(XE.exit 2,frm [(1,.ptr 0 0 0)],[some (Ent.box (Q6 a))])):=by
 rcases H1,H2 with⟨⟨rfl⟩,⟨rfl⟩⟩
 rw[QK];simp -dsimp only[↓evA,evB,Qu,Tryz.func50,Tryz.f50,QAV,Qry,TP,TZ,Nat.reduceAdd,Nat.reduceMul,Nat.reduceBEq,Nat.reduceLeDiff,Nat.reduceLT];apply QM i2;intro i2;simp -dsimp +contextual (maxSteps:=100000000) only[↓evA,eZ,Nat.reduceAdd,Nat.reduceMul,Nat.reduceBEq,Nat.reduceLeDiff,Nat.reduceLT,Qbq,Qia]
 try simp only[Xe,eY]
 all_goals rfl
theorem Qgn(i){R1 a}[H1:EncR Q6 R1 a]:LP T (n+3) 50 16 (frm [(1,.ptr 0 0 0),(7,.i .i64 i)]) [some (Ent.box R1)] =
  Qbe (run (Vg a) i) (fun(zr:Bool)=>(XE.ret,frm [(2,.b zr)],[])) (fun(zr:Unit)=>(XE.exit 4,frm [],[])):=by
 obtain⟨rfl⟩:=H1;rw[QK];simp -dsimp only[↓evA,evB,Qu,Tryz.func50,Tryz.f50,QAV,Qry,TP,TZ,Nat.reduceAdd,Nat.reduceMul,Nat.reduceBEq,Nat.reduceLeDiff,Nat.reduceLT];apply QM i;intro i;simp -dsimp +contextual (maxSteps:=100000000) only[↓evA,eZ,Nat.reduceAdd,Nat.reduceMul,Nat.reduceBEq,Nat.reduceLeDiff,Nat.reduceLT,J3]
 try simp only[Vg,eY]
 all_goals rfl
theorem QjQ{R1 a}[H1:EncR Q6 R1 a]:CP T (n+10) 50 [.agg R1]=(Jf a).map fun r=>.b r:=by
 obtain⟨rfl⟩:=H1;rw[Qm];simp -dsimp +contextual (maxSteps:=100000000) only[↓evA,eZ,Nat.reduceAdd,Nat.reduceMul,Nat.reduceBEq,Nat.reduceLeDiff,Nat.reduceLT,Tryz.func50,Tryz.f50,QAV,Qry,Qmp,Qg2,Qgw,Qgn]
 try simp only[Jf,eY]
 all_goals rfl
theorem Qgb{R1 a}[H1:EncR Jy R1 a]:CP T (n+2) 110 [.agg R1]=(Qaj a).map fun r=>.b r:=by
 obtain⟨rfl⟩:=H1;rw[Qm];simp -dsimp +contextual only[↓evA,eZ,Nat.reduceAdd,Nat.reduceMul,Nat.reduceBEq,Nat.reduceLeDiff,Nat.reduceLT,Tryz.func110,Tryz.f110,QLJ,QsB,QO]
 try simp only[Qaj,eY]
 all_goals rfl
theorem Qji(a i){R1 l}[H1:EncL Jl R1 l]:LP T (n+1) 177 2 (frm [(0,.imm 3 R1),(1,.i .i64 a),(5,.i .i64 i)]) [] =
  Qbe (run (Zj l a) i) (fun(zr:Int)=>(XE.ret,frm [(4,.i .i64 zr)],[])) (fun(zr:Unit)=>(XE.exit 0,frm [],[])):=by
 obtain⟨rfl⟩:=H1;rw[QK];simp -dsimp only[↓evA,evB,Qu,Tryz.func177,Tryz.f177,QBS,QpE,TP,TZ,Nat.reduceAdd,Nat.reduceMul,Nat.reduceBEq,Nat.reduceLeDiff,Nat.reduceLT];apply QM i;intro i;simp -dsimp +contextual only[↓evA,eZ,Nat.reduceAdd,Nat.reduceMul,Nat.reduceBEq,Nat.reduceLeDiff,Nat.reduceLT]
 try simp only[Zj,eY]
 all_goals rfl
theorem Qlz(a){R1 l}[H1:EncL Jl R1 l]:CP T (n+2) 177 [.imm 3 R1,.i .i64 a]=(Qdj l a).map fun r=>.i .i64 r:=by
 obtain⟨rfl⟩:=H1;rw[Qm];simp -dsimp +contextual only[↓evA,eZ,Nat.reduceAdd,Nat.reduceMul,Nat.reduceBEq,Nat.reduceLeDiff,Nat.reduceLT,Tryz.func177,Tryz.f177,QBS,QpE,Qji]
 try simp only[Qdj,eY]
 all_goals rfl
theorem Qgt(a){R1 l}[H1:EncL Jl R1 l]:CP T (n+3) 112 [.imm 3 R1,.i .i64 a]=(QaT l a).map fun r=>.own 2 (r.map J8):=by
 obtain⟨rfl⟩:=H1;rw[Qm];simp -dsimp +contextual only[↓evA,eZ,Nat.reduceAdd,Nat.reduceMul,Nat.reduceBEq,Nat.reduceLeDiff,Nat.reduceLT,Tryz.func112,Tryz.f112,QK7,QsO,Qlz]
 try simp only[QaT,eY]
 all_goals first|rfl|(simp +contextual only[evN]<;>rfl)
theorem J9(a b):CP T (n+1) 157 [.i .i64 a,.i .i64 b]=(Qbr a b).map fun r=>.i .i64 r:=by
 rw[Qm];simp -dsimp +contextual only[↓evA,eZ,Nat.reduceAdd,Nat.reduceMul,Nat.reduceBEq,Nat.reduceLeDiff,Nat.reduceLT,Tryz.func157,Tryz.f157,QGM,Qsx]
 try simp only[Qbr,eY]
 all_goals rfl
theorem QlH{R1 l}[H1:EncL J8 R1 l]:CP T (n+2) 176 [.imm 2 R1]=(Qb8 l).map fun r=>.i .i64 r:=by
 obtain⟨rfl⟩:=H1;rw[Qm];simp -dsimp +contextual only[↓evA,eZ,Nat.reduceAdd,Nat.reduceMul,Nat.reduceBEq,Nat.reduceLeDiff,Nat.reduceLT,Tryz.func176,Tryz.f176,QMt,Qtt,J9]
 try simp only[Qb8,eY]
 all_goals rfl
theorem Qb9{R1 l R2 a}[H1:EncL J8 R1 l][H2:EncR Jy R2 a]:CP T (n+4) 111 [.imm 2 R1,.agg R2]=(Jz l a).map fun r=>.i .i64 r:=by
 rcases H1,H2 with⟨⟨rfl⟩,⟨rfl⟩⟩
 rw[Qm];simp -dsimp +contextual only[↓evA,eZ,Nat.reduceAdd,Nat.reduceMul,Nat.reduceBEq,Nat.reduceLeDiff,Nat.reduceLT,Tryz.func111,Tryz.f111,QIt,QtH,Qgb,Qde,QlH]
 try simp only[Jz,eY]
 all_goals rfl
theorem Qg9(i){R1 a}[H1:EncR Q6 R1 a]:LP T (n+5) 51 4 (frm [(1,.ptr 0 0 0),(3,.i .i64 i)]) [some (Ent.box R1)] =
  Qbe (run (Jt a) i) (fun(zr:Bool)=>(XE.ret,frm [(2,.b zr)],[])) (fun(zr:Unit)=>(XE.exit 0,frm [],[])):=by
 obtain⟨rfl⟩:=H1;rw[QK];simp -dsimp only[↓evA,evB,Qu,Tryz.func51,Tryz.f51,QJu,QxX,TP,TZ,Nat.reduceAdd,Nat.reduceMul,Nat.reduceBEq,Nat.reduceLeDiff,Nat.reduceLT];apply QM i;intro i;simp -dsimp +contextual (maxSteps:=100000000) only[↓evA,eZ,Nat.reduceAdd,Nat.reduceMul,Nat.reduceBEq,Nat.reduceLeDiff,Nat.reduceLT,J3,Qgb,Qgt,Qb9]
 try simp only[Jt,eY]
 all_goals rfl
theorem Qjw{R1 a}[H1:EncR Q6 R1 a]:CP T (n+6) 51 [.agg R1]=(Ji a).map fun r=>.b r:=by
 obtain⟨rfl⟩:=H1;rw[Qm];simp -dsimp +contextual (maxSteps:=100000000) only[↓evA,eZ,Nat.reduceAdd,Nat.reduceMul,Nat.reduceBEq,Nat.reduceLeDiff,Nat.reduceLT,Tryz.func51,Tryz.f51,QJu,QxX,Qg9]
 try simp only[Ji,eY]
 all_goals rfl
theorem ZW{R1 a}[H1:EncR Q6 R1 a]:CP T (n+11) 8 [.agg R1]=(QJ a).map fun r=>.b r:=by
 obtain⟨rfl⟩:=H1;rw[Qm];simp -dsimp +contextual (maxSteps:=100000000) only[↓evA,eZ,Nat.reduceAdd,Nat.reduceMul,Nat.reduceBEq,Nat.reduceLeDiff,Nat.reduceLT,Tryz.func8,Tryz.f8,Aa8,An8,QO,QfF,Qeq,Qdc,QcJ,QdI,Qem,QjQ,Qjw]
 try simp only[QJ,eY]
 all_goals rfl
theorem Qg8(a i){R1 l}[H1:EncL VM R1 l]:LP T (n+1) 167 3 (frm [(0,.imm 3 R1),(3,.i .i64 a),(4,.i .i64 i)]) [] =
  (run (XB l) (a,i)).map (fun(zr:Int)=>(XE.exit 0,frm [(3,.i .i64 zr)],[])):=by
 obtain⟨rfl⟩:=H1;rw[QK];simp -dsimp only[↓evA,evB,Qu,Tryz.func167,Tryz.f167,QBX,Qo4,TP,TZ,Nat.reduceAdd,Nat.reduceMul,Nat.reduceBEq,Nat.reduceLeDiff,Nat.reduceLT];apply Vc a i;intro a i;simp -dsimp +contextual only[↓evA,eZ,Nat.reduceAdd,Nat.reduceMul,Nat.reduceBEq,Nat.reduceLeDiff,Nat.reduceLT]
 try simp only[XB,eY]
 all_goals rfl
theorem Qjq{R1 l}[H1:EncL VM R1 l]:CP T (n+2) 167 [.imm 3 R1]=(QaL l).map fun r=>.i .i64 r:=by
 obtain⟨rfl⟩:=H1;rw[Qm];simp -dsimp +contextual only[↓evA,eZ,Nat.reduceAdd,Nat.reduceMul,Nat.reduceBEq,Nat.reduceLeDiff,Nat.reduceLT,Tryz.func167,Tryz.f167,QBX,Qo4,Qg8]
 try simp only[QaL,eY]
 all_goals rfl
theorem QkK(a){R1 s}[H1:EncL VM R1 s]:CP T (n+12) 90 [.i .i64 a,.imm 3 R1]=(Qbm a s).map fun r=>.tup [.agg (Ja r.1),.b r.2]:=by
 obtain⟨rfl⟩:=H1;rw[Qm];simp -dsimp +contextual (maxSteps:=100000000) only[↓evA,eZ,Nat.reduceAdd,Nat.reduceMul,Nat.reduceBEq,Nat.reduceLeDiff,Nat.reduceLT,Tryz.func90,Tryz.f90,QPD,QBy,VA,ZW,Qjq]
 try simp only[Qbm,eY]
 all_goals rfl
theorem Qfz{R1 c}[H1:EncR Qw R1 c]:CA T (n+13) 31 [some (Ent.box R1)] [.ptr 0 0 0]=(QaC c).map fun r=>(.agg [.i .i64 r.2.No,.sl 1,.sl 2,.sl 3,.sl 4,.sl 5,.sl 6,.sl 7,.i .i64 r.2.Now],[some (Ent.box (Qw r.1)),some (Ent.lst 8 (r.2.Finds.map QX)),some (Ent.lst 3 (r.2.Secrets.map Xl)),some (Ent.lst 3 (r.2.Slots.map VM)),some (Ent.lst 5 (r.2.Claims.map Vk)),some (Ent.lst 4 (r.2.Trials.map Jy)),some (Ent.lst 5 (r.2.Chain.map Zc)),some (Ent.lst 4 (r.2.Book.map Jk))]):=by
 obtain⟨rfl⟩:=H1;rw[QaG];simp -dsimp +contextual (maxSteps:=100000000) only[↓evA,eZ,Nat.reduceAdd,Nat.reduceMul,Nat.reduceBEq,Nat.reduceLeDiff,Nat.reduceLT,Tryz.func31,Tryz.f31,QQ1,QA6,srt,Qp,Qkz,QkK]
 try simp only[QaC,eY]
 all_goals rfl
theorem QmZ(i){R1 c}[H1:EncR Qw R1 c]:CA T (n+3) 225 [some (Ent.box R1)] [.ptr 0 0 0,.i .i64 i]=(QcZ c i).map fun r=>(.agg (Qc3 r.2),[some (Ent.box (Qw r.1))]):=by
 obtain⟨rfl⟩:=H1;rw[QaG];simp -dsimp +contextual (maxSteps:=100000000) only[↓evA,eZ,Nat.reduceAdd,Nat.reduceMul,Nat.reduceBEq,Nat.reduceLeDiff,Nat.reduceLT,Tryz.func225,Tryz.f225,QGQ,Qtw,srt,Qp]
 try simp only[QcZ,eY]
 all_goals rfl
theorem QmF(i){R1 c}[H1:EncR Qw R1 c]:CA T (n+4) 168 [some (Ent.box R1)] [.ptr 0 0 0,.i .i64 i]=(QcS c i).map fun r=>(.agg (QX r.2),[some (Ent.box (Qw r.1))]):=by
 obtain⟨rfl⟩:=H1;rw[QaG];simp -dsimp +contextual (maxSteps:=100000000) only[↓evA,eZ,Nat.reduceAdd,Nat.reduceMul,Nat.reduceBEq,Nat.reduceLeDiff,Nat.reduceLT,Tryz.func168,Tryz.f168,QKE,QsF,srt,QmZ,Qp]
 try simp only[QcS,eY]
 all_goals rfl
theorem Zm{R1 c R2 l}[H1:EncR Qw R1 c][H2:EncL Qi R2 l]:CA T (n+3) 153 [some (Ent.box R1),some (Ent.lst 1 R2)] [.ptr 0 0 0,.sl 1]=(Vi c l).map fun r=>(.i .i64 r.2,[some (Ent.box (Qw r.1)),some (Ent.lst 1 (l.map Qi))]):=by
 rcases H1,H2 with⟨⟨rfl⟩,⟨rfl⟩⟩
 rw[QaG];simp -dsimp +contextual (maxSteps:=100000000) only[↓evA,eZ,Nat.reduceAdd,Nat.reduceMul,Nat.reduceBEq,Nat.reduceLeDiff,Nat.reduceLT,Tryz.func153,Tryz.f153,QL3,QtG,srt,Qp]
 try simp only[Vi,eY]
 all_goals rfl
theorem Qf7(i){R1 c}[H1:EncR Qw R1 c]:CA T (n+5) 92 [some (Ent.box R1)] [.ptr 0 0 0,.i .i64 i]=(Qab c i).map fun r=>(.agg [.i .i64 r.2.Kind,.i .i64 r.2.Find.Thing.Id,.i .i64 r.2.Find.Thing.Kind,.i .i64 r.2.Find.Thing.Colour,.i .i64 r.2.Find.Thing.Size,.i .i64 r.2.Find.Thing.Worth,.i .i64 r.2.Find.Place,.i .i64 r.2.Find.At,.i .i64 r.2.Find.Finder,.sl 1,.i .i64 r.2.Id,.i .i64 r.2.Who,.i .i64 r.2.N,.sl 2],[some (Ent.box (Qw r.1)),some (Ent.lst 2 (r.2.Marks.map J8)),some (Ent.lst 3 (r.2.Bids.map Qbn))]):=by
 obtain⟨rfl⟩:=H1;rw[QaG];simp -dsimp +contextual (maxSteps:=100000000) only[↓evA,eZ,Nat.reduceAdd,Nat.reduceMul,Nat.reduceBEq,Nat.reduceLeDiff,Nat.reduceLT,Tryz.func92,Tryz.f92,QRN,QAO,srt,QmF,Qp,Zm]
 try simp only[Qab,eY]
 all_goals rfl
theorem QlB(s w c):CP T (n+5) 226 [.i .i64 s,.i .i64 w,.i .i64 c]=(Qcr s w c).map fun r=>.i .i64 r:=by
 rw[Qm];simp -dsimp +contextual only[↓evA,eZ,Nat.reduceAdd,Nat.reduceMul,Nat.reduceBEq,Nat.reduceLeDiff,Nat.reduceLT,Tryz.func226,Tryz.f226,QLo,QtJ,Qgc]
 try simp only[Qcr,eY]
 all_goals rfl
theorem QjZ(i){R1 c R2 l}[H1:EncR Qw R1 c][H2:EncL Qbn R2 l]:LP T (n+6) 169 3 (frm [(0,.ptr 0 0 0),(3,.sl 1),(4,.i .i64 i)]) [some (Ent.box R1),some (Ent.lst 3 R2)] =
  (run Z0 (c,l,i)).map (fun(zr:l1Cur×(List Bid))=>(XE.exit 0,frm [(0,.ptr 0 0 0),(3,.sl 1)],[some (Ent.box (Qw zr.1)),some (Ent.lst 3 (zr.2.map Qbn))])):=by
 rcases H1,H2 with⟨⟨rfl⟩,⟨rfl⟩⟩
 rw[QK];simp -dsimp only[↓evA,evB,Qu,Tryz.func169,Tryz.f169,QCo,Qq2,TP,TZ,Nat.reduceAdd,Nat.reduceMul,Nat.reduceBEq,Nat.reduceLeDiff,Nat.reduceLT];apply QdK c l i;intro c l i;simp -dsimp +contextual only[↓evA,eZ,Nat.reduceAdd,Nat.reduceMul,Nat.reduceBEq,Nat.reduceLeDiff,Nat.reduceLT,srt,Qp,QlB]
 try simp only[Z0,eY]
 all_goals rfl
theorem QmO{R1 c}[H1:EncR Qw R1 c]:CA T (n+7) 169 [some (Ent.box R1)] [.ptr 0 0 0]=(QcW c).map fun r=>(.sl 1,[some (Ent.box (Qw r.1)),some (Ent.lst 3 (r.2.map Qbn))]):=by
 obtain⟨rfl⟩:=H1;rw[QaG];simp -dsimp +contextual (maxSteps:=100000000) only[↓evA,eZ,Nat.reduceAdd,Nat.reduceMul,Nat.reduceBEq,Nat.reduceLeDiff,Nat.reduceLT,Tryz.func169,Tryz.f169,QCo,Qq2,srt,Qp,Zm,QjZ]
 try simp only[QcW,eY]
 all_goals rfl
end Go.Proofs.YtonidbheohhgdaaGreat
