import Derived.Test.YtonidbheohhgdaaGreatEq3
namespace Go.Proofs.YtonidbheohhgdaaGreat
open Go Go.Proofs Go.Proofs.YtonidbheohhgdaaGreat.Am
set_option maxHeartbeats 4000000
set_option linter.unusedVariables false
set_option linter.unusedSimpArgs false
set_option linter.defProp false
set_option maxRecDepth 100000
variable(n:Nat)
theorem Qh2(i){R1 l}[H1:EncL Qi R1 l]:LP T (n+1) 28 2 (frm [(0,.imm 1 R1),(3,.i .i64 i)]) [] =
  Qbe (run (Jx l) i) (fun(zr:Bool)=>(XE.ret,frm [(2,.b zr)],[])) (fun(zr:Unit)=>(XE.exit 0,frm [],[])):=by
 obtain⟨rfl⟩:=H1;rw[QK];simp -dsimp only[↓evA,evB,Qu,Tryz.func28,Tryz.f28,QGA,QxP,TP,TZ,Nat.reduceAdd,Nat.reduceMul,Nat.reduceBEq,Nat.reduceLeDiff,Nat.reduceLT];apply QM i;intro i;simp -dsimp +contextual only[↓evA,eZ,Nat.reduceAdd,Nat.reduceMul,Nat.reduceBEq,Nat.reduceLeDiff,Nat.reduceLT]
 try simp only[Jx,eY]
 all_goals rfl
theorem Qme{R1 l}[H1:EncL Qi R1 l]:CP T (n+2) 28 [.imm 1 R1]=(Qcw l).map fun r=>.b r:=by
 obtain⟨rfl⟩:=H1;rw[Qm];simp -dsimp +contextual only[↓evA,eZ,Nat.reduceAdd,Nat.reduceMul,Nat.reduceBEq,Nat.reduceLeDiff,Nat.reduceLT,Tryz.func28,Tryz.f28,QGA,QxP,Qh2]
 try simp only[Qcw,eY]
 all_goals rfl
theorem QfM(i){R1 c R2 a R3 a2 R4 a3}[H1:EncL QbK R1 c][H2:EncL Q6 R2 a][H3:EncL Qcj R3 a2][H4:EncL Qi R4 a3]:LP T (n+3) 4 10 (frm [(0,.imm 1 R1),(4,.imm 9 R2),(6,.sl 0),(8,.sl 1),(9,.i .i64 i)]) [some (Ent.lst 2 R3),some (Ent.lst 1 R4)] =
  Qbe (run (VX c a a2 a3) i) (fun(zr:Bool)=>(XE.ret,frm [(2,.b zr)],[])) (fun(zr:Unit)=>(XE.exit 0,frm [(0,.imm 1 (c.map QbK)),(4,.imm 9 (a.map Q6)),(8,.sl 0)],[some (Ent.lst 1 (a3.map Qi))])):=by
 rcases H1,H2,H3,H4 with⟨⟨rfl⟩,⟨rfl⟩,⟨rfl⟩,⟨rfl⟩⟩
 rw[QK];simp -dsimp only[↓evA,evB,Qu,Tryz.func4,Tryz.f4,Aa4,An4,TP,TZ,Nat.reduceAdd,Nat.reduceMul,Nat.reduceBEq,Nat.reduceLeDiff,Nat.reduceLT];apply QM i;intro i;simp -dsimp +contextual (maxSteps:=100000000) only[↓evA,eZ,Nat.reduceAdd,Nat.reduceMul,Nat.reduceBEq,Nat.reduceLeDiff,Nat.reduceLT,srt,QkI]
 try simp only[VX,eY]
 all_goals rfl
theorem Qil{R1 c}[H1:EncL QbK R1 c]:CP T (n+21) 4 [.imm 1 R1]=(QbB c).map fun r=>.b r:=by
 obtain⟨rfl⟩:=H1;rw[Qm];simp -dsimp +contextual only[↓evA,eZ,Nat.reduceAdd,Nat.reduceMul,Nat.reduceBEq,Nat.reduceLeDiff,Nat.reduceLT,Tryz.func4,Tryz.f4,Aa4,An4,srt,QrV,Qdz,QlA,Qmu,Qjx,Qhs,QfT,Qgv,Qb3,Qme,QfM]
 try simp only[QbB,eY]
 all_goals rfl
end Go.Proofs.YtonidbheohhgdaaGreat
