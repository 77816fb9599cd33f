import Derived.Test.YtonidbheohhgdaaGreatEq3
namespace Go.Proofs.YtonidbheohhgdaaGreat
open Go Go.Proofs Go.Proofs.YtonidbheohhgdaaGreat.Am
set_option maxHeartbeats 4000000
set_option linter.unusedVariables false
set_option linter.unusedSimpArgs false
set_option linter.defProp false
set_option maxRecDepth 100000
variable(n:Nat)
theorem Qiy(i){R1 l}[H1:EncL Qj R1 l]:LP T (n+1) 28 2 (frm [(0,.imm 1 R1),(3,.i .i64 i)]) [] =
  Qbe (run (JB l) i) (fun(zr:Bool)=>(XE.ret,frm [(2,.b zr)],[])) (fun(zr:Unit)=>(XE.exit 0,frm [],[])):=by
 obtain⟨rfl⟩:=H1;rw[QK];simp -dsimp only[↓evA,evB,Qu,Tryz.func28,Tryz.f28,QJ2,QvT,TP,TZ,Nat.reduceAdd,Nat.reduceMul,Nat.reduceBEq,Nat.reduceLeDiff,Nat.reduceLT];apply QP i;intro i;simp -dsimp +contextual only[↓evA,eZ,Nat.reduceAdd,Nat.reduceMul,Nat.reduceBEq,Nat.reduceLeDiff,Nat.reduceLT]
 try simp only[JB,eY]
 all_goals rfl
theorem Qlg{R1 l}[H1:EncL Qj R1 l]:CP T (n+2) 28 [.imm 1 R1]=(Qcm l).map fun r=>.b r:=by
 obtain⟨rfl⟩:=H1;rw[Qm];simp -dsimp +contextual only[↓evA,eZ,Nat.reduceAdd,Nat.reduceMul,Nat.reduceBEq,Nat.reduceLeDiff,Nat.reduceLT,Tryz.func28,Tryz.f28,QJ2,QvT,Qiy]
 try simp only[Qcm,eY]
 all_goals rfl
theorem QfM(i){R1 c R2 a R3 a2 R4 a3}[H1:EncL QbJ R1 c][H2:EncL Q6 R2 a][H3:EncL Qcq R3 a2][H4:EncL Qj R4 a3]:LP T (n+3) 4 10 (frm [(0,.imm 1 R1),(4,.imm 9 R2),(6,.sl 0),(8,.sl 1),(9,.i .i64 i)]) [some (Ent.lst 2 R3),some (Ent.lst 1 R4)] =
  Qbe (run (VU c a a2 a3) i) (fun(zr:Bool)=>(XE.ret,frm [(2,.b zr)],[])) (fun(zr:Unit)=>(XE.exit 0,frm [(0,.imm 1 (c.map QbJ)),(4,.imm 9 (a.map Q6)),(8,.sl 0)],[some (Ent.lst 1 (a3.map Qj))])):=by
 rcases H1,H2,H3,H4 with⟨⟨rfl⟩,⟨rfl⟩,⟨rfl⟩,⟨rfl⟩⟩
 rw[QK];simp -dsimp only[↓evA,evB,Qu,Tryz.func4,Tryz.f4,Aa4,An4,TP,TZ,Nat.reduceAdd,Nat.reduceMul,Nat.reduceBEq,Nat.reduceLeDiff,Nat.reduceLT];apply QP i;intro i;simp -dsimp +contextual (maxSteps:=100000000) only[↓evA,eZ,Nat.reduceAdd,Nat.reduceMul,Nat.reduceBEq,Nat.reduceLeDiff,Nat.reduceLT,srt,QkN]
 try simp only[VU,eY]
 all_goals rfl
theorem Qi0{R1 c}[H1:EncL QbJ R1 c]:CP T (n+21) 4 [.imm 1 R1]=(QbE c).map fun r=>.b r:=by
 obtain⟨rfl⟩:=H1;rw[Qm];simp -dsimp +contextual only[↓evA,eZ,Nat.reduceAdd,Nat.reduceMul,Nat.reduceBEq,Nat.reduceLeDiff,Nat.reduceLT,Tryz.func4,Tryz.f4,Aa4,An4,srt,Qr4,Qdy,Qml,Qmw,Qjv,QhD,QfT,Qgn,Qb8,Qlg,QfM]
 try simp only[QbE,eY]
 all_goals rfl
end Go.Proofs.YtonidbheohhgdaaGreat
