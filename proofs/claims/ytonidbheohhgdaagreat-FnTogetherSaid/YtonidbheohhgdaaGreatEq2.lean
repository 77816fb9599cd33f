import Derived.Test.YtonidbheohhgdaaGreatEq1
namespace Go.Proofs.YtonidbheohhgdaaGreat
open Go Go.Proofs Go.Proofs.YtonidbheohhgdaaGreat.Am
set_option maxHeartbeats 4000000
set_option linter.unusedVariables false
set_option linter.unusedSimpArgs false
set_option linter.defProp false
set_option maxRecDepth 100000
variable(n:Nat)
theorem QmW{R1 c}[H1:EncR Qw R1 c]:CA T (n+8) 93 [some (Ent.box R1)] [.ptr 0 0 0]=(QcY c).map fun r=>(.agg [.i .i64 r.2.Kind,.i .i64 r.2.Find.Thing.Id,.i .i64 r.2.Find.Thing.Kind,.i .i64 r.2.Find.Thing.Colour,.i .i64 r.2.Find.Thing.Size,.i .i64 r.2.Find.Thing.Worth,.i .i64 r.2.Find.Place,.i .i64 r.2.Find.At,.i .i64 r.2.Find.Finder,.sl 1,.i .i64 r.2.Id,.i .i64 r.2.Who,.i .i64 r.2.N,.sl 2],[some (Ent.box (Qw r.1)),some (Ent.lst 2 (r.2.Marks.map J8)),some (Ent.lst 3 (r.2.Bids.map Qbn))]):=by
 obtain⟨rfl⟩:=H1;rw[QaG];simp -dsimp +contextual (maxSteps:=100000000) only[↓evA,eZ,Nat.reduceAdd,Nat.reduceMul,Nat.reduceBEq,Nat.reduceLeDiff,Nat.reduceLT,Tryz.func93,Tryz.f93,QRL,QAk,srt,Zm,Qp,Qf7,QmO]
 try simp only[QcY,eY]
 all_goals rfl
theorem Qij(i){R1 c R2 l}[H1:EncR Qw R1 c][H2:EncL Qfi R2 l]:LP T (n+9) 32 3 (frm [(0,.ptr 0 0 0),(5,.sl 1),(6,.i .i64 i)]) [some (Ent.box R1),some (Ent.lst 14 R2)] =
  (run Zn (c,l,i)).map (fun(zr:l1Cur×(List Event))=>(XE.exit 0,frm [(0,.ptr 0 0 0),(5,.sl 1)],[some (Ent.box (Qw zr.1)),some (Ent.lst 14 (zr.2.map Qfi))])):=by
 rcases H1,H2 with⟨⟨rfl⟩,⟨rfl⟩⟩
 rw[QK];simp -dsimp only[↓evA,evB,Qu,Tryz.func32,Tryz.f32,QMZ,Qv4,TP,TZ,Nat.reduceAdd,Nat.reduceMul,Nat.reduceBEq,Nat.reduceLeDiff,Nat.reduceLT];apply QdK c l i;intro c l i;simp -dsimp +contextual only[↓evA,eZ,Nat.reduceAdd,Nat.reduceMul,Nat.reduceBEq,Nat.reduceLeDiff,Nat.reduceLT,srt,QmW]
 try simp only[Zn,eY]
 all_goals rfl
theorem Qf9(m){R1 c}[H1:EncR Qw R1 c]:CA T (n+10) 32 [some (Ent.box R1)] [.ptr 0 0 0,.i .i64 m]=(QaW c m).map fun r=>(.sl 1,[some (Ent.box (Qw r.1)),some (Ent.lst 14 (r.2.map Qfi))]):=by
 obtain⟨rfl⟩:=H1;rw[QaG];simp -dsimp +contextual (maxSteps:=100000000) only[↓evA,eZ,Nat.reduceAdd,Nat.reduceMul,Nat.reduceBEq,Nat.reduceLeDiff,Nat.reduceLT,Tryz.func32,Tryz.f32,QMZ,Qv4,srt,Qf7,Qp,Qij]
 try simp only[QaW,eY]
 all_goals rfl
theorem QiW(k){R1 l R2 f}[H1:EncL QX R1 l][H2:EncR QX R2 f]:LP T (n+1) 251 2 (frm [(0,.imm 8 R1),(3,.ptr 0 0 0),(6,.i .i64 k)]) [some (Ent.box R2)] =
  (run (Zq l f) k).map (fun(zr:Int)=>(XE.exit 0,frm [(0,.imm 8 (l.map QX)),(3,.ptr 0 0 0),(6,.i .i64 zr)],[some (Ent.box (QX f))])):=by
 rcases H1,H2 with⟨⟨rfl⟩,⟨rfl⟩⟩
 rw[QK];simp -dsimp only[↓evA,evB,Qu,Tryz.func251,Tryz.f251,QCD,Qqs,TP,TZ,Nat.reduceAdd,Nat.reduceMul,Nat.reduceBEq,Nat.reduceLeDiff,Nat.reduceLT];apply QM k;intro k;simp -dsimp +contextual only[↓evA,eZ,Nat.reduceAdd,Nat.reduceMul,Nat.reduceBEq,Nat.reduceLeDiff,Nat.reduceLT]
 try simp only[Zq,eY]
 try simp only[List.contains_nil,Bool.not_false,Bool.and_true,Vz,List.length_append,List.length_cons,List.length_nil,Nat.zero_add,VD,VT]
 all_goals rfl
theorem Qlx{R1 l R2 f}[H1:EncL QX R1 l][H2:EncR QX R2 f]:CP T (n+6) 251 [.imm 8 R1,.agg R2]=(QaY l f).map fun r=>.tup [.own 8 (r.1.map QX),.b r.2]:=by
 rcases H1,H2 with⟨⟨rfl⟩,⟨rfl⟩⟩
 rw[Qm];simp -dsimp +contextual only[↓evA,eZ,Nat.reduceAdd,Nat.reduceMul,Nat.reduceBEq,Nat.reduceLeDiff,Nat.reduceLT,Tryz.func251,Tryz.f251,QCD,Qqs,QfF,QiW]
 try simp only[QaY,eY]
 try simp only[List.contains_nil,Bool.not_false,Bool.and_true,Vz,List.length_append,List.length_cons,List.length_nil,Nat.zero_add,VD,VT]
 all_goals first|rfl|(simp +contextual only[evN]<;>rfl)
theorem Qg1(k){R1 l R2 a}[H1:EncL Jl R1 l][H2:EncR Jl R2 a]:LP T (n+1) 252 2 (frm [(0,.imm 3 R1),(3,.ptr 0 0 0),(6,.i .i64 k)]) [some (Ent.box R2)] =
  (run (Jp l a) k).map (fun(zr:Int)=>(XE.exit 0,frm [(0,.imm 3 (l.map Jl)),(3,.ptr 0 0 0),(6,.i .i64 zr)],[some (Ent.box (Jl a))])):=by
 rcases H1,H2 with⟨⟨rfl⟩,⟨rfl⟩⟩
 rw[QK];simp -dsimp only[↓evA,evB,Qu,Tryz.func252,Tryz.f252,QCq,QpS,TP,TZ,Nat.reduceAdd,Nat.reduceMul,Nat.reduceBEq,Nat.reduceLeDiff,Nat.reduceLT];apply QM k;intro k;simp -dsimp +contextual only[↓evA,eZ,Nat.reduceAdd,Nat.reduceMul,Nat.reduceBEq,Nat.reduceLeDiff,Nat.reduceLT]
 try simp only[Jp,eY]
 try simp only[List.contains_nil,Bool.not_false,Bool.and_true,Vz,List.length_append,List.length_cons,List.length_nil,Nat.zero_add,VD,VT]
 all_goals rfl
theorem QjX{R1 l R2 a}[H1:EncL Jl R1 l][H2:EncR Jl R2 a]:CP T (n+6) 252 [.imm 3 R1,.agg R2]=(Z4 l a).map fun r=>.tup [.own 3 (r.1.map Xl),.b r.2]:=by
 rcases H1,H2 with⟨⟨rfl⟩,⟨rfl⟩⟩
 rw[Qm];simp -dsimp +contextual only[↓evA,eZ,Nat.reduceAdd,Nat.reduceMul,Nat.reduceBEq,Nat.reduceLeDiff,Nat.reduceLT,Tryz.func252,Tryz.f252,QCq,QpS,Qf5,Qeq,Qg1]
 try simp only[Z4,eY]
 try simp only[List.contains_nil,Bool.not_false,Bool.and_true,Vz,List.length_append,List.length_cons,List.length_nil,Nat.zero_add,VD,VT]
 all_goals first|rfl|(simp +contextual only[evN]<;>rfl)
theorem Qe9(s k i){R1 l}[H1:EncL VM R1 l]:LP T (n+1) 278 3 (frm [(0,.imm 3 R1),(1,.i .i64 s),(5,.i .i64 k),(6,.i .i64 i)]) [] =
  (run (QP l s) (k,i)).map (fun(zr:Int)=>(XE.exit 0,frm [(0,.imm 3 (l.map VM)),(5,.i .i64 zr)],[])):=by
 obtain⟨rfl⟩:=H1;rw[QK];simp -dsimp only[↓evA,evB,Qu,Tryz.func278,Tryz.f278,QB0,Qql,TP,TZ,Nat.reduceAdd,Nat.reduceMul,Nat.reduceBEq,Nat.reduceLeDiff,Nat.reduceLT];apply Vc k i;intro k i;simp -dsimp +contextual only[↓evA,eZ,Nat.reduceAdd,Nat.reduceMul,Nat.reduceBEq,Nat.reduceLeDiff,Nat.reduceLT]
 try simp only[QP,eY]
 all_goals rfl
theorem QgX(s){R1 l}[H1:EncL VM R1 l]:CP T (n+2) 278 [.imm 3 R1,.i .i64 s]=(Zv l s).map fun r=>.i .i64 r:=by
 obtain⟨rfl⟩:=H1;rw[Qm];simp -dsimp +contextual only[↓evA,eZ,Nat.reduceAdd,Nat.reduceMul,Nat.reduceBEq,Nat.reduceLeDiff,Nat.reduceLT,Tryz.func278,Tryz.f278,QB0,Qql,Qe9]
 try simp only[Zv,eY]
 all_goals rfl
theorem Qi8(s i){R1 a R2 o}[H1:EncR Qc3 R1 a][H2:EncL VM R2 o]:LP T (n+1) 253 6 (frm [(3,.ptr 0 0 0),(6,.sl 1),(7,.i .i64 s),(8,.i .i64 i)]) [some (Ent.box R1),some (Ent.lst 3 R2)] =
  (run (V8 a s) (o,i)).map (fun(zr:(List Slot))=>(XE.exit 0,frm [(6,.sl 0)],[some (Ent.lst 3 (zr.map VM))])):=by
 rcases H1,H2 with⟨⟨rfl⟩,⟨rfl⟩⟩
 rw[QK];simp -dsimp only[↓evA,evB,Qu,Tryz.func253,Tryz.f253,QBY,Qqy,TP,TZ,Nat.reduceAdd,Nat.reduceMul,Nat.reduceBEq,Nat.reduceLeDiff,Nat.reduceLT];apply Vc o i;intro o i;simp -dsimp +contextual only[↓evA,eZ,Nat.reduceAdd,Nat.reduceMul,Nat.reduceBEq,Nat.reduceLeDiff,Nat.reduceLT]
 try simp only[V8,eY]
 all_goals rfl
theorem QlP{R1 l R2 a}[H1:EncL VM R1 l][H2:EncR Qc3 R2 a]:CP T (n+4) 253 [.imm 3 R1,.agg R2]=(Qa6 l a).map fun r=>.tup [.own 3 (r.1.map VM),.b r.2]:=by
 rcases H1,H2 with⟨⟨rfl⟩,⟨rfl⟩⟩
 rw[Qm];simp -dsimp +contextual only[↓evA,eZ,Nat.reduceAdd,Nat.reduceMul,Nat.reduceBEq,Nat.reduceLeDiff,Nat.reduceLT,Tryz.func253,Tryz.f253,QBY,Qqy,QgX,Qdc,QdJ,Qbq,Qi8]
 try simp only[Qa6,eY]
 all_goals first|rfl|(simp +contextual only[evN]<;>rfl)
theorem QdT{R1 l R2 a}[H1:EncL Zc R1 l][H2:EncR Zc R2 a]:CP T (n+8) 161 [.imm 5 R1,.agg R2]=(Qac l a).map fun r=>.tup [.own 5 (r.1.map Zc),.b r.2]:=by
 rcases H1,H2 with⟨⟨rfl⟩,⟨rfl⟩⟩
 rw[Qm];simp -dsimp +contextual only[↓evA,eZ,Nat.reduceAdd,Nat.reduceMul,Nat.reduceBEq,Nat.reduceLeDiff,Nat.reduceLT,Tryz.func161,Tryz.f161,QJL,Qty,Qfv,QdI]
 try simp only[Qac,eY]
 try simp only[List.contains_nil,Bool.not_false,Bool.and_true,Vz,List.length_append,List.length_cons,List.length_nil,Nat.zero_add,VD,VT]
 all_goals first|rfl|(simp +contextual only[evN]<;>rfl)
theorem Zd(oxNo oxNow o2){R1 a R2 oxFinds R3 oxSecrets R4 oxSlots R5 oxClaims R6 oxTrials R7 oxChain R8 oxBook}[H1:EncR Q6 R1 a][H2:EncL QX R2 oxFinds][H3:EncL Xl R3 oxSecrets][H4:EncL VM R4 oxSlots][H5:EncL Vk R5 oxClaims][H6:EncL Jy R6 oxTrials][H7:EncL Zc R7 oxChain][H8:EncL Jk R8 oxBook]:CM T (n+12) 254 [some (Ent.lst 8 R2),some (Ent.lst 3 R3),some (Ent.lst 3 R4),some (Ent.lst 5 R5),some (Ent.lst 4 R6),some (Ent.lst 5 R7),some (Ent.lst 4 R8)] [.agg R1,.agg [.i .i64 oxNo,.sl 0,.sl 1,.sl 2,.sl 3,.sl 4,.sl 5,.sl 6,.i .i64 oxNow],.b o2]=(Qk a (⟨oxNo,oxFinds,oxSecrets,oxSlots,oxClaims,oxTrials,oxChain,oxBook,oxNow⟩:House) o2).map fun r=>.tup [.agg (Ja r.1),.b r.2]:=by
 rcases H1,H2,H3,H4,H5,H6,H7,H8 with⟨⟨rfl⟩,⟨rfl⟩,⟨rfl⟩,⟨rfl⟩,⟨rfl⟩,⟨rfl⟩,⟨rfl⟩,⟨rfl⟩⟩
 rw[QCE];simp -dsimp +contextual (maxSteps:=100000000) only[↓evA,eZ,Nat.reduceAdd,Nat.reduceMul,Nat.reduceBEq,Nat.reduceLeDiff,Nat.reduceLT,Tryz.func254,Tryz.f254,QKp,Qtn,ZW,VA]
 try simp only[Qk,eY]
 all_goals rfl
theorem QkO(s){R1 a R2 f R3 m}[H1:EncR Q6 R1 a][H2:EncR QX R2 f][H3:EncL J8 R3 m]:CP T (n+13) 208 [.agg R1,.agg R2,.imm 2 R3,.i .i64 s]=(ZM a f m s).map fun r=>.tup [.agg (Ja r.1),.b r.2]:=by
 rcases H1,H2,H3 with⟨⟨rfl⟩,⟨rfl⟩,⟨rfl⟩⟩
 rw[Qm];simp -dsimp +contextual (maxSteps:=100000000) only[↓evA,eZ,Nat.reduceAdd,Nat.reduceMul,Nat.reduceBEq,Nat.reduceLeDiff,Nat.reduceLT,Tryz.func208,Tryz.f208,QKz,Qtx,srt,VA,Qlx,QjX,QlP,QdT,Zd]
 try simp only[ZM,eY]
 all_goals rfl
theorem QhQ(k b i){R1 l R2 a}[H1:EncL Vk R1 l][H2:EncR Vk R2 a]:LP T (n+1) 255 4 (frm [(0,.imm 5 R1),(3,.ptr 0 0 0),(6,.i .i64 k),(7,.b b),(8,.i .i64 i)]) [some (Ent.box R2)] =
  (run (X3 l a) (k,b,i)).map (fun(zr:Int×Bool)=>(XE.exit 0,frm [(0,.imm 5 (l.map Vk)),(3,.ptr 0 0 0),(6,.i .i64 zr.1),(7,.b zr.2)],[some (Ent.box (Vk a))])):=by
 rcases H1,H2 with⟨⟨rfl⟩,⟨rfl⟩⟩
 rw[QK];simp -dsimp only[↓evA,evB,Qu,Tryz.func255,Tryz.f255,QCG,Qpk,TP,TZ,Nat.reduceAdd,Nat.reduceMul,Nat.reduceBEq,Nat.reduceLeDiff,Nat.reduceLT];apply QdK k b i;intro k b i;simp -dsimp +contextual only[↓evA,eZ,Nat.reduceAdd,Nat.reduceMul,Nat.reduceBEq,Nat.reduceLeDiff,Nat.reduceLT]
 try simp only[X3,eY]
 try simp only[List.contains_nil,Bool.not_false,Bool.and_true,Vz,List.length_append,List.length_cons,List.length_nil,Nat.zero_add,VD,VT]
 all_goals rfl
theorem QkP{R1 l R2 a}[H1:EncL Vk R1 l][H2:EncR Vk R2 a]:CP T (n+4) 255 [.imm 5 R1,.agg R2]=(QaD l a).map fun r=>.tup [.own 5 (r.1.map Vk),.b r.2]:=by
 rcases H1,H2 with⟨⟨rfl⟩,⟨rfl⟩⟩
 rw[Qm];simp -dsimp +contextual only[↓evA,eZ,Nat.reduceAdd,Nat.reduceMul,Nat.reduceBEq,Nat.reduceLeDiff,Nat.reduceLT,Tryz.func255,Tryz.f255,QCG,Qpk,QcJ,QhQ]
 try simp only[QaD,eY]
 try simp only[List.contains_nil,Bool.not_false,Bool.and_true,Vz,List.length_append,List.length_cons,List.length_nil,Nat.zero_add,VD,VT]
 all_goals first|rfl|(simp +contextual only[evN]<;>rfl)
theorem QgY(i a oxNo oxNow o2 k){R1 a2 R2 oxFinds R3 oxSecrets R4 oxSlots R5 oxClaims R6 oxTrials R7 oxChain R8 oxBook}[H1:EncR Q6 R1 a2][H2:EncL QX R2 oxFinds][H3:EncL Xl R3 oxSecrets][H4:EncL VM R4 oxSlots][H5:EncL Vk R5 oxClaims][H6:EncL Jy R6 oxTrials][H7:EncL Zc R7 oxChain][H8:EncL Jk R8 oxBook]:LP T (n+1) 209 5 (frm [(1,.i .i64 i),(3,.i .i64 a),(4,.ptr 0 0 0),(8,.ptr 1 0 0),(10,.ptr 2 0 0),(12,.b o2),(13,.i .i64 k)]) [some (Ent.box R1),some (Ent.box [.i .i64 0,.nil,.nil,.nil,.nil,.nil,.nil,.nil,.i .i64 0]),some (Ent.box [.i .i64 oxNo,.sl 3,.sl 4,.sl 5,.sl 6,.sl 7,.sl 8,.sl 9,.i .i64 oxNow]),some (Ent.lst 8 R2),some (Ent.lst 3 R3),some (Ent.lst 3 R4),some (Ent.lst 5 R5),some (Ent.lst 4 R6),some (Ent.lst 5 R7),some (Ent.lst 4 R8)] =
  (run (Ju i a a2 (⟨oxNo,oxFinds,oxSecrets,oxSlots,oxClaims,oxTrials,oxChain,oxBook,oxNow⟩:House) o2) k).map (fun(zr:Int)=>(XE.exit 0,frm [(1,.i .i64 i),(3,.i .i64 a),(4,.ptr 0 0 0),(8,.ptr 1 0 0),(10,.ptr 2 0 0),(12,.b o2),(13,.i .i64 zr)],[some (Ent.box (Q6 a2)),some (Ent.box [.i .i64 0,.nil,.nil,.nil,.nil,.nil,.nil,.nil,.i .i64 0]),some (Ent.box [.i .i64 oxNo,.sl 3,.sl 4,.sl 5,.sl 6,.sl 7,.sl 8,.sl 9,.i .i64 oxNow]),some (Ent.lst 8 (oxFinds.map QX)),some (Ent.lst 3 (oxSecrets.map Xl)),some (Ent.lst 3 (oxSlots.map VM)),some (Ent.lst 5 (oxClaims.map Vk)),some (Ent.lst 4 (oxTrials.map Jy)),some (Ent.lst 5 (oxChain.map Zc)),some (Ent.lst 4 (oxBook.map Jk))])):=by
 rcases H1,H2,H3,H4,H5,H6,H7,H8 with⟨⟨rfl⟩,⟨rfl⟩,⟨rfl⟩,⟨rfl⟩,⟨rfl⟩,⟨rfl⟩,⟨rfl⟩,⟨rfl⟩⟩
 rw[QK];simp -dsimp only[↓evA,evB,Qu,Tryz.func209,Tryz.f209,QBZ,QpN,TP,TZ,Nat.reduceAdd,Nat.reduceMul,Nat.reduceBEq,Nat.reduceLeDiff,Nat.reduceLT];apply QM k;intro k;simp -dsimp +contextual (maxSteps:=100000000) only[↓evA,eZ,Nat.reduceAdd,Nat.reduceMul,Nat.reduceBEq,Nat.reduceLeDiff,Nat.reduceLT,srt]
 try simp only[Ju,eY]
 try simp only[List.contains_nil,Bool.not_false,Bool.and_true,Vz,List.length_append,List.length_cons,List.length_nil,Nat.zero_add,VD,VT]
 all_goals rfl
theorem Qjz(i w a2){R1 a}[H1:EncR Q6 R1 a]:CP T (n+13) 209 [.agg R1,.i .i64 i,.i .i64 w,.i .i64 a2]=(Jj a i w a2).map fun r=>.tup [.agg (Ja r.1),.b r.2]:=by
 obtain⟨rfl⟩:=H1;rw[Qm];simp -dsimp +contextual (maxSteps:=100000000) only[↓evA,eZ,Nat.reduceAdd,Nat.reduceMul,Nat.reduceBEq,Nat.reduceLeDiff,Nat.reduceLT,Tryz.func209,Tryz.f209,QBZ,QpN,srt,VA,QkP,Qbq,Zd,QgY]
 try simp only[Jj,eY]
 try simp only[List.contains_nil,Bool.not_false,Bool.and_true,Vz,List.length_append,List.length_cons,List.length_nil,Nat.zero_add,VD,VT]
 all_goals rfl
theorem Qha(i i2){R1 l}[H1:EncL Vk R1 l]:LP T (n+1) 256 2 (frm [(0,.imm 5 R1),(1,.i .i64 i),(5,.i .i64 i2)]) [] =
  Qbe (run (Jr l i) i2) (fun(zr:Int)=>(XE.ret,frm [(4,.i .i64 zr)],[])) (fun(zr:Unit)=>(XE.exit 0,frm [],[])):=by
 obtain⟨rfl⟩:=H1;rw[QK];simp -dsimp only[↓evA,evB,Qu,Tryz.func256,Tryz.f256,QB4,QqK,TP,TZ,Nat.reduceAdd,Nat.reduceMul,Nat.reduceBEq,Nat.reduceLeDiff,Nat.reduceLT];apply QM i2;intro i2;simp -dsimp +contextual only[↓evA,eZ,Nat.reduceAdd,Nat.reduceMul,Nat.reduceBEq,Nat.reduceLeDiff,Nat.reduceLT]
 try simp only[Jr,eY]
 all_goals rfl
theorem QcD(i){R1 l}[H1:EncL Vk R1 l]:CP T (n+2) 256 [.imm 5 R1,.i .i64 i]=(Zb l i).map fun r=>.i .i64 r:=by
 obtain⟨rfl⟩:=H1;rw[Qm];simp -dsimp +contextual only[↓evA,eZ,Nat.reduceAdd,Nat.reduceMul,Nat.reduceBEq,Nat.reduceLeDiff,Nat.reduceLT,Tryz.func256,Tryz.f256,QB4,QqK,Qha]
 try simp only[Zb,eY]
 all_goals rfl
theorem QhW(c a){R1 l}[H1:EncL J8 R1 l]:CP T (n+5) 291 [.imm 2 R1,.i .i64 c,.i .i64 a]=(Z7 l c a).map fun r=>.i .i64 r:=by
 obtain⟨rfl⟩:=H1;rw[Qm];simp -dsimp +contextual only[↓evA,eZ,Nat.reduceAdd,Nat.reduceMul,Nat.reduceBEq,Nat.reduceLeDiff,Nat.reduceLT,Tryz.func291,Tryz.f291,QN7,QtR,Qde,QO,Qgc,Qmj]
 try simp only[Z7,eY]
 all_goals rfl
theorem QgW{R1 l R2 a}[H1:EncL J8 R1 l][H2:EncR Jy R2 a]:CP T (n+6) 279 [.imm 2 R1,.agg R2]=(ZA l a).map fun r=>.i .i64 r:=by
 rcases H1,H2 with⟨⟨rfl⟩,⟨rfl⟩⟩
 rw[Qm];simp -dsimp +contextual only[↓evA,eZ,Nat.reduceAdd,Nat.reduceMul,Nat.reduceBEq,Nat.reduceLeDiff,Nat.reduceLT,Tryz.func279,Tryz.f279,QHp,QsX,Qb9,QhW]
 try simp only[ZA,eY]
 all_goals rfl
theorem QhV(q i){R1 l}[H1:EncL J8 R1 l]:LP T (n+1) 280 2 (frm [(0,.imm 2 R1),(1,.i .i64 q),(5,.i .i64 i)]) [] =
  Qbe (run (JT l q) i) (fun(zr:Int)=>(XE.ret,frm [(4,.i .i64 zr)],[])) (fun(zr:Unit)=>(XE.exit 0,frm [],[])):=by
 obtain⟨rfl⟩:=H1;rw[QK];simp -dsimp only[↓evA,evB,Qu,Tryz.func280,Tryz.f280,QCh,Qpt,TP,TZ,Nat.reduceAdd,Nat.reduceMul,Nat.reduceBEq,Nat.reduceLeDiff,Nat.reduceLT];apply QM i;intro i;simp -dsimp +contextual only[↓evA,eZ,Nat.reduceAdd,Nat.reduceMul,Nat.reduceBEq,Nat.reduceLeDiff,Nat.reduceLT]
 try simp only[JT,eY]
 all_goals rfl
theorem QkE(q){R1 l}[H1:EncL J8 R1 l]:CP T (n+2) 280 [.imm 2 R1,.i .i64 q]=(Qbp l q).map fun r=>.i .i64 r:=by
 obtain⟨rfl⟩:=H1;rw[Qm];simp -dsimp +contextual only[↓evA,eZ,Nat.reduceAdd,Nat.reduceMul,Nat.reduceBEq,Nat.reduceLeDiff,Nat.reduceLT,Tryz.func280,Tryz.f280,QCh,Qpt,QhV]
 try simp only[Qbp,eY]
 all_goals rfl
theorem Qig(a2){R1 l R2 a}[H1:EncL J8 R1 l][H2:EncR Jy R2 a]:CP T (n+7) 257 [.imm 2 R1,.agg R2,.i .i64 a2]=(Qav l a a2).map fun r=>.tup [.agg (Jy r.1),.b r.2]:=by
 rcases H1,H2 with⟨⟨rfl⟩,⟨rfl⟩⟩
 rw[Qm];simp -dsimp +contextual only[↓evA,eZ,Nat.reduceAdd,Nat.reduceMul,Nat.reduceBEq,Nat.reduceLeDiff,Nat.reduceLT,Tryz.func257,Tryz.f257,QJQ,Qs8,QgW,QkE]
 try simp only[Qav,eY]
 all_goals rfl
theorem Qie(c a2){R1 a}[H1:EncR Q6 R1 a]:CP T (n+13) 210 [.agg R1,.i .i64 c,.i .i64 a2]=(JC a c a2).map fun r=>.tup [.agg (Ja r.1),.b r.2]:=by
 obtain⟨rfl⟩:=H1;rw[Qm];simp -dsimp +contextual (maxSteps:=100000000) only[↓evA,eZ,Nat.reduceAdd,Nat.reduceMul,Nat.reduceBEq,Nat.reduceLeDiff,Nat.reduceLT,Tryz.func210,Tryz.f210,QLA,Qst,srt,VA,QcD,ZW,Qgt,Qig,Qb9,Zd]
 try simp only[JC,eY]
 all_goals rfl
theorem QfS(a k i){R1 l}[H1:EncL Vk R1 l]:LP T (n+1) 258 3 (frm [(0,.imm 5 R1),(1,.i .i64 a),(5,.i .i64 k),(6,.i .i64 i)]) [] =
  (run (QZ l a) (k,i)).map (fun(zr:Int)=>(XE.exit 0,frm [(0,.imm 5 (l.map Vk)),(5,.i .i64 zr)],[])):=by
 obtain⟨rfl⟩:=H1;rw[QK];simp -dsimp only[↓evA,evB,Qu,Tryz.func258,Tryz.f258,QCi,Qo8,TP,TZ,Nat.reduceAdd,Nat.reduceMul,Nat.reduceBEq,Nat.reduceLeDiff,Nat.reduceLT];apply Vc k i;intro k i;simp -dsimp +contextual only[↓evA,eZ,Nat.reduceAdd,Nat.reduceMul,Nat.reduceBEq,Nat.reduceLeDiff,Nat.reduceLT]
 try simp only[QZ,eY]
 all_goals rfl
theorem QdR(a){R1 l}[H1:EncL Vk R1 l]:CP T (n+2) 258 [.imm 5 R1,.i .i64 a]=(X0 l a).map fun r=>.i .i64 r:=by
 obtain⟨rfl⟩:=H1;rw[Qm];simp -dsimp +contextual only[↓evA,eZ,Nat.reduceAdd,Nat.reduceMul,Nat.reduceBEq,Nat.reduceLeDiff,Nat.reduceLT,Tryz.func258,Tryz.f258,QCi,Qo8,QfS]
 try simp only[X0,eY]
 all_goals rfl
theorem Qh1(s i){R1 o}[H1:EncL VM R1 o]:LP T (n+1) 162 6 (frm [(6,.sl 0),(7,.i .i64 s),(8,.i .i64 i)]) [some (Ent.lst 3 R1)] =
  (run (Xc s) (o,i)).map (fun(zr:(List Slot))=>(XE.exit 0,frm [(6,.sl 0)],[some (Ent.lst 3 (zr.map VM))])):=by
 obtain⟨rfl⟩:=H1;rw[QK];simp -dsimp only[↓evA,evB,Qu,Tryz.func162,Tryz.f162,QCy,Qqx,TP,TZ,Nat.reduceAdd,Nat.reduceMul,Nat.reduceBEq,Nat.reduceLeDiff,Nat.reduceLT];apply Vc o i;intro o i;simp -dsimp +contextual only[↓evA,eZ,Nat.reduceAdd,Nat.reduceMul,Nat.reduceBEq,Nat.reduceLeDiff,Nat.reduceLT]
 try simp only[Xc,eY]
 all_goals rfl
theorem Qgz(a){R1 l}[H1:EncL VM R1 l]:CP T (n+4) 162 [.imm 3 R1,.i .i64 a]=(Qak l a).map fun r=>.tup [.own 3 (r.1.map VM),.b r.2]:=by
 obtain⟨rfl⟩:=H1;rw[Qm];simp -dsimp +contextual only[↓evA,eZ,Nat.reduceAdd,Nat.reduceMul,Nat.reduceBEq,Nat.reduceLeDiff,Nat.reduceLT,Tryz.func162,Tryz.f162,QCy,Qqx,Qbq,Qdc,Qh1]
 try simp only[Qak,eY]
 all_goals first|rfl|(simp +contextual only[evN]<;>rfl)
theorem QeF(a2 a3 w){R1 a}[H1:EncR Q6 R1 a]:CP T (n+9) 259 [.agg R1,.i .i64 a2,.i .i64 a3,.i .i64 w]=(Zr a a2 a3 w).map fun r=>.tup [.agg (Ja r.1),.b r.2]:=by
 obtain⟨rfl⟩:=H1;rw[Qm];simp -dsimp +contextual (maxSteps:=100000000) only[↓evA,eZ,Nat.reduceAdd,Nat.reduceMul,Nat.reduceBEq,Nat.reduceLeDiff,Nat.reduceLT,Tryz.func259,Tryz.f259,QGH,Qsr,VA,Qgz,QdT]
 try simp only[Zr,eY]
 all_goals rfl
theorem QkN(i s){R1 l}[H1:EncL Vk R1 l]:CP T (n+4) 260 [.imm 5 R1,.i .i64 i,.i .i64 s]=(Qbo l i s).map fun r=>.tup [.own 5 (r.1.map Vk),.b r.2]:=by
 obtain⟨rfl⟩:=H1;rw[Qm];simp -dsimp +contextual only[↓evA,eZ,Nat.reduceAdd,Nat.reduceMul,Nat.reduceBEq,Nat.reduceLeDiff,Nat.reduceLT,Tryz.func260,Tryz.f260,QJv,Qsh,QcD,QcJ]
 try simp only[Qbo,eY]
 all_goals first|rfl|(simp +contextual only[evN]<;>rfl)
theorem Qm1(d){R1 a}[H1:EncR Qc3 R1 a]:CP T (n+3) 262 [.agg R1,.i .i64 d]=(Qc2 a d).map fun r=>.i .i64 r:=by
 obtain⟨rfl⟩:=H1;rw[Qm];simp -dsimp +contextual only[↓evA,eZ,Nat.reduceAdd,Nat.reduceMul,Nat.reduceBEq,Nat.reduceLeDiff,Nat.reduceLT,Tryz.func262,Tryz.f262,QIY,QtM,QdJ,QO,J9]
 try simp only[Qc2,eY]
 all_goals rfl
theorem QfB{R1 l R2 a}[H1:EncL Jk R1 l][H2:EncR Jk R2 a]:CP T (n+4) 163 [.imm 4 R1,.agg R2]=(ZE l a).map fun r=>.tup [.own 4 (r.1.map Jk),.b r.2]:=by
 rcases H1,H2 with⟨⟨rfl⟩,⟨rfl⟩⟩
 rw[Qm];simp -dsimp +contextual only[↓evA,eZ,Nat.reduceAdd,Nat.reduceMul,Nat.reduceBEq,Nat.reduceLeDiff,Nat.reduceLT,Tryz.func163,Tryz.f163,QG8,Qt1,Qem]
 try simp only[ZE,eY]
 try simp only[List.contains_nil,Bool.not_false,Bool.and_true,Vz,List.length_append,List.length_cons,List.length_nil,Nat.zero_add,VD,VT]
 all_goals first|rfl|(simp +contextual only[evN]<;>rfl)
theorem Qhi(axNo axNow f a2 c){R1 axFinds R2 axSecrets R3 axSlots R4 axClaims R5 axTrials R6 axChain R7 axBook}[H1:EncL QX R1 axFinds][H2:EncL Xl R2 axSecrets][H3:EncL VM R3 axSlots][H4:EncL Vk R4 axClaims][H5:EncL Jy R5 axTrials][H6:EncL Zc R6 axChain][H7:EncL Jk R7 axBook]:CM T (n+5) 261 [some (Ent.lst 8 R1),some (Ent.lst 3 R2),some (Ent.lst 3 R3),some (Ent.lst 5 R4),some (Ent.lst 4 R5),some (Ent.lst 5 R6),some (Ent.lst 4 R7)] [.agg [.i .i64 axNo,.sl 0,.sl 1,.sl 2,.sl 3,.sl 4,.sl 5,.sl 6,.i .i64 axNow],.i .i64 f,.i .i64 a2,.i .i64 c]=(Zu (⟨axNo,axFinds,axSecrets,axSlots,axClaims,axTrials,axChain,axBook,axNow⟩:House) f a2 c).map fun r=>.tup [.agg (Ja r.1),.b r.2]:=by
 rcases H1,H2,H3,H4,H5,H6,H7 with⟨⟨rfl⟩,⟨rfl⟩,⟨rfl⟩,⟨rfl⟩,⟨rfl⟩,⟨rfl⟩,⟨rfl⟩⟩
 rw[QCE];simp -dsimp +contextual (maxSteps:=100000000) only[↓evA,eZ,Nat.reduceAdd,Nat.reduceMul,Nat.reduceBEq,Nat.reduceLeDiff,Nat.reduceLT,Tryz.func261,Tryz.f261,QJH,Qsw,QfB]
 try simp only[Zu,eY]
 all_goals rfl
theorem Qj0(a2){R1 a}[H1:EncR Q6 R1 a]:CP T (n+13) 211 [.agg R1,.i .i64 a2]=(Za a a2).map fun r=>.tup [.agg (Ja r.1),.b r.2]:=by
 obtain⟨rfl⟩:=H1;rw[Qm];simp -dsimp +contextual (maxSteps:=100000000) only[↓evA,eZ,Nat.reduceAdd,Nat.reduceMul,Nat.reduceBEq,Nat.reduceLeDiff,Nat.reduceLT,Tryz.func211,Tryz.f211,QJi,Qtk,srt,QdR,J3,ZW,VA,QcD,QeF,QkN,Qm1,Qhi,Zd]
 try simp only[Za,eY]
 try simp only[List.contains_nil,Bool.not_false,Bool.and_true,Vz,List.length_append,List.length_cons,List.length_nil,Nat.zero_add,VD,VT]
 all_goals rfl
theorem Qih(i k){R1 l}[H1:EncL Qbn R1 l]:LP T (n+1) 281 7 (frm [(0,.imm 3 R1),(3,.i .i64 i),(4,.i .i64 k)]) [] =
  Qbe (run (JB l i) k) (fun(zr:Bool)=>(XE.ret,frm [(2,.b zr)],[])) (fun(zr:Unit)=>(XE.exit 2,frm [(0,.imm 3 (l.map Qbn)),(3,.i .i64 i)],[])):=by
 obtain⟨rfl⟩:=H1;rw[QK];simp -dsimp only[↓evA,evB,Qu,Tryz.func281,Tryz.f281,Qxl,QnD,TP,TZ,Nat.reduceAdd,Nat.reduceMul,Nat.reduceBEq,Nat.reduceLeDiff,Nat.reduceLT];apply QM k;intro k;simp -dsimp +contextual only[↓evA,eZ,Nat.reduceAdd,Nat.reduceMul,Nat.reduceBEq,Nat.reduceLeDiff,Nat.reduceLT]
 try simp only[JB,eY]
 all_goals rfl
theorem Qjd(i){R1 l}[H1:EncL Qbn R1 l]:LP T (n+2) 281 2 (frm [(0,.imm 3 R1),(3,.i .i64 i)]) [] =
  Qbe (run (Jw l) i) (fun(zr:Bool)=>(XE.ret,frm [(2,.b zr)],[])) (fun(zr:Unit)=>(XE.exit 0,frm [(0,.imm 3 (l.map Qbn))],[])):=by
 obtain⟨rfl⟩:=H1;rw[QK];simp -dsimp only[↓evA,evB,Qu,Tryz.func281,Tryz.f281,Qxl,QnD,TP,TZ,Nat.reduceAdd,Nat.reduceMul,Nat.reduceBEq,Nat.reduceLeDiff,Nat.reduceLT];apply QM i;intro i;simp -dsimp +contextual only[↓evA,eZ,Nat.reduceAdd,Nat.reduceMul,Nat.reduceBEq,Nat.reduceLeDiff,Nat.reduceLT,QO,Qih]
 try simp only[Jw,eY]
 all_goals rfl
theorem Qmr{R1 l}[H1:EncL Qbn R1 l]:CP T (n+3) 281 [.imm 3 R1]=(Qdo l).map fun r=>.b r:=by
 obtain⟨rfl⟩:=H1;rw[Qm];simp -dsimp +contextual only[↓evA,eZ,Nat.reduceAdd,Nat.reduceMul,Nat.reduceBEq,Nat.reduceLeDiff,Nat.reduceLT,Tryz.func281,Tryz.f281,Qxl,QnD,Qjd]
 try simp only[Qdo,eY]
 all_goals rfl
theorem QgZ(i k){R1 l R2 o}[H1:EncL Qbn R1 l][H2:EncL Qbn R2 o]:LP T (n+1) 282 6 (frm [(0,.imm 3 R1),(3,.sl 0),(4,.i .i64 i),(5,.i .i64 k)]) [some (Ent.lst 3 R2)] =
  (run (Jn l o i) k).map (fun(zr:Int)=>(XE.exit 2,frm [(0,.imm 3 (l.map Qbn)),(3,.sl 0),(4,.i .i64 i),(5,.i .i64 zr)],[some (Ent.lst 3 (o.map Qbn))])):=by
 rcases H1,H2 with⟨⟨rfl⟩,⟨rfl⟩⟩
 rw[QK];simp -dsimp only[↓evA,evB,Qu,Tryz.func282,Tryz.f282,Qv0,Qm4,TP,TZ,Nat.reduceAdd,Nat.reduceMul,Nat.reduceBEq,Nat.reduceLeDiff,Nat.reduceLT];apply QM k;intro k;simp -dsimp +contextual only[↓evA,eZ,Nat.reduceAdd,Nat.reduceMul,Nat.reduceBEq,Nat.reduceLeDiff,Nat.reduceLT]
 try simp only[Jn,eY]
 try simp only[List.contains_nil,Bool.not_false,Bool.and_true,Vz,List.length_append,List.length_cons,List.length_nil,Nat.zero_add,VD,VT]
 all_goals rfl
theorem Qg5(i){R1 l R2 o}[H1:EncL Qbn R1 l][H2:EncL Qbn R2 o]:LP T (n+2) 282 3 (frm [(0,.imm 3 R1),(3,.sl 0),(4,.i .i64 i)]) [some (Ent.lst 3 R2)] =
  (run (XG l) (o,i)).map (fun(zr:(List Bid))=>(XE.exit 0,frm [(3,.sl 0)],[some (Ent.lst 3 (zr.map Qbn))])):=by
 rcases H1,H2 with⟨⟨rfl⟩,⟨rfl⟩⟩
 rw[QK];simp -dsimp only[↓evA,evB,Qu,Tryz.func282,Tryz.f282,Qv0,Qm4,TP,TZ,Nat.reduceAdd,Nat.reduceMul,Nat.reduceBEq,Nat.reduceLeDiff,Nat.reduceLT];apply Vc o i;intro o i;simp -dsimp +contextual only[↓evA,eZ,Nat.reduceAdd,Nat.reduceMul,Nat.reduceBEq,Nat.reduceLeDiff,Nat.reduceLT,QgZ]
 try simp only[XG,eY]
 try simp only[List.contains_nil,Bool.not_false,Bool.and_true,Vz,List.length_append,List.length_cons,List.length_nil,Nat.zero_add,VD,VT]
 all_goals rfl
theorem QjI{R1 l}[H1:EncL Qbn R1 l]:CP T (n+3) 282 [.imm 3 R1]=(QaP l).map fun r=>.own 3 (r.map Qbn):=by
 obtain⟨rfl⟩:=H1;rw[Qm];simp -dsimp +contextual only[↓evA,eZ,Nat.reduceAdd,Nat.reduceMul,Nat.reduceBEq,Nat.reduceLeDiff,Nat.reduceLT,Tryz.func282,Tryz.f282,Qv0,Qm4,Qg5]
 try simp only[QaP,eY]
 try simp only[List.contains_nil,Bool.not_false,Bool.and_true,Vz,List.length_append,List.length_cons,List.length_nil,Nat.zero_add,VD,VT]
 all_goals first|rfl|(simp +contextual only[evN]<;>rfl)
theorem Qm0{R1 l}[H1:EncL Qbn R1 l]:CP T (n+4) 263 [.imm 3 R1]=(QcT l).map fun r=>.tup [.i .i64 r.1,.i .i64 r.2]:=by
 obtain⟨rfl⟩:=H1;rw[Qm];simp -dsimp +contextual only[↓evA,eZ,Nat.reduceAdd,Nat.reduceMul,Nat.reduceBEq,Nat.reduceLeDiff,Nat.reduceLT,Tryz.func263,Tryz.f263,QIj,Qsi,Qmr,QjI]
 try simp only[QcT,eY]
 all_goals rfl
theorem Qkp(k):CP T (n+2) 296 [.i .i64 k]=(QcN k).map fun r=>.i .i64 r:=by
 rw[Qm];simp -dsimp +contextual only[↓evA,eZ,Nat.reduceAdd,Nat.reduceMul,Nat.reduceBEq,Nat.reduceLeDiff,Nat.reduceLT,Tryz.func296,Tryz.f296,QH2,Qto,QO]
 try simp only[QcN,eY]
 all_goals rfl
theorem QlW{R1 f}[H1:EncR QX R1 f]:CP T (n+4) 292 [.agg R1]=(Qds f).map fun r=>.i .i64 r:=by
 obtain⟨rfl⟩:=H1;rw[Qm];simp -dsimp +contextual only[↓evA,eZ,Nat.reduceAdd,Nat.reduceMul,Nat.reduceBEq,Nat.reduceLeDiff,Nat.reduceLT,Tryz.func292,Tryz.f292,QKu,Qsy,QcP,Qkp]
 try simp only[Qds,eY]
 all_goals rfl
theorem Qok(a){R1 f}[H1:EncR QX R1 f]:CP T (n+5) 283 [.agg R1,.i .i64 a]=(QdU f a).map fun r=>.b r:=by
 obtain⟨rfl⟩:=H1;rw[Qm];simp -dsimp +contextual only[↓evA,eZ,Nat.reduceAdd,Nat.reduceMul,Nat.reduceBEq,Nat.reduceLeDiff,Nat.reduceLT,Tryz.func283,Tryz.f283,QMV,Qsp,QcP,QlW]
 try simp only[QdU,eY]
 all_goals rfl
theorem QjS(a i){R1 l R2 f}[H1:EncL Vk R1 l][H2:EncR QX R2 f]:LP T (n+1) 264 4 (frm [(1,.imm 5 R1),(2,.i .i64 a),(3,.ptr 0 0 0),(7,.i .i64 i)]) [some (Ent.box R2)] =
  Qbe (run (ZX l a f) i) (fun(zr:Int)=>(XE.ret,frm [(6,.i .i64 zr)],[])) (fun(zr:Unit)=>(XE.exit 0,frm [(2,.i .i64 a),(3,.ptr 0 0 0)],[some (Ent.box (QX f))])):=by
 rcases H1,H2 with⟨⟨rfl⟩,⟨rfl⟩⟩
 rw[QK];simp -dsimp only[↓evA,evB,Qu,Tryz.func264,Tryz.f264,QCF,Qq0,TP,TZ,Nat.reduceAdd,Nat.reduceMul,Nat.reduceBEq,Nat.reduceLeDiff,Nat.reduceLT];apply QM i;intro i;simp -dsimp +contextual only[↓evA,eZ,Nat.reduceAdd,Nat.reduceMul,Nat.reduceBEq,Nat.reduceLeDiff,Nat.reduceLT]
 try simp only[ZX,eY]
 all_goals rfl
theorem Qhk(a){R1 f R2 l}[H1:EncR QX R1 f][H2:EncL Vk R2 l]:CP T (n+6) 264 [.agg R1,.imm 5 R2,.i .i64 a]=(QbY f l a).map fun r=>.i .i64 r:=by
 rcases H1,H2 with⟨⟨rfl⟩,⟨rfl⟩⟩
 rw[Qm];simp -dsimp +contextual only[↓evA,eZ,Nat.reduceAdd,Nat.reduceMul,Nat.reduceBEq,Nat.reduceLeDiff,Nat.reduceLT,Tryz.func264,Tryz.f264,QCF,Qq0,QdR,Qok,QjS]
 try simp only[QbY,eY]
 all_goals rfl
theorem Qf3(c s i){R1 p R2 o}[H1:EncL Qi R1 p][H2:EncL Qi R2 o]:LP T (n+2) 284 4 (frm [(0,.i .i64 c),(1,.imm 1 R1),(5,.sl 0),(6,.i .i64 s),(7,.i .i64 i)]) [some (Ent.lst 1 R2)] =
  Qbe (run (XZ c p o) (s,i)) (fun(zr:(List Int))=>(XE.ret,frm [(4,.sl 0)],[some (Ent.lst 1 (zr.map Qi))])) (fun(zr:Int)=>(XE.exit 0,frm [(0,.i .i64 c),(1,.imm 1 (p.map Qi)),(5,.sl 0),(6,.i .i64 zr)],[some (Ent.lst 1 (o.map Qi))])):=by
 rcases H1,H2 with⟨⟨rfl⟩,⟨rfl⟩⟩
 rw[QK];simp -dsimp only[↓evA,evB,Qu,Tryz.func284,Tryz.f284,Qse,Qma,TP,TZ,Nat.reduceAdd,Nat.reduceMul,Nat.reduceBEq,Nat.reduceLeDiff,Nat.reduceLT];apply Vc s i;intro s i;simp -dsimp +contextual only[↓evA,eZ,Nat.reduceAdd,Nat.reduceMul,Nat.reduceBEq,Nat.reduceLeDiff,Nat.reduceLT,QO]
 try simp only[XZ,eY]
 all_goals rfl
theorem QfK(c s l i){R1 p R2 o}[H1:EncL Qi R1 p][H2:EncL Qi R2 o]:LP T (n+1) 284 13 (frm [(0,.i .i64 c),(1,.imm 1 R1),(5,.sl 0),(6,.i .i64 s),(8,.i .i64 l),(9,.i .i64 i)]) [some (Ent.lst 1 R2)] =
  (run (VV c p s) (o,l,i)).map (fun(zr:(List Int)×Int)=>(XE.exit 2,frm [(5,.sl 0),(8,.i .i64 zr.2)],[some (Ent.lst 1 (zr.1.map Qi))])):=by
 rcases H1,H2 with⟨⟨rfl⟩,⟨rfl⟩⟩
 rw[QK];simp -dsimp only[↓evA,evB,Qu,Tryz.func284,Tryz.f284,Qse,Qma,TP,TZ,Nat.reduceAdd,Nat.reduceMul,Nat.reduceBEq,Nat.reduceLeDiff,Nat.reduceLT];apply QdK o l i;intro o l i;simp -dsimp +contextual only[↓evA,eZ,Nat.reduceAdd,Nat.reduceMul,Nat.reduceBEq,Nat.reduceLeDiff,Nat.reduceLT]
 try simp only[VV,eY]
 all_goals rfl
theorem QfL(l i){R1 o}[H1:EncL Qi R1 o]:LP T (n+1) 284 18 (frm [(5,.sl 0),(8,.i .i64 l),(10,.i .i64 i)]) [some (Ent.lst 1 R1)] =
  (run (XI l) (o,i)).map (fun(zr:(List Int))=>(XE.exit 4,frm [(5,.sl 0)],[some (Ent.lst 1 (zr.map Qi))])):=by
 obtain⟨rfl⟩:=H1;rw[QK];simp -dsimp only[↓evA,evB,Qu,Tryz.func284,Tryz.f284,Qse,Qma,TP,TZ,Nat.reduceAdd,Nat.reduceMul,Nat.reduceBEq,Nat.reduceLeDiff,Nat.reduceLT];apply Vc o i;intro o i;simp -dsimp +contextual only[↓evA,eZ,Nat.reduceAdd,Nat.reduceMul,Nat.reduceBEq,Nat.reduceLeDiff,Nat.reduceLT]
 try simp only[XI,eY]
 all_goals rfl
theorem Qi9(c){R1 p}[H1:EncL Qi R1 p]:CP T (n+3) 284 [.i .i64 c,.imm 1 R1]=(Qas c p).map fun r=>.own 1 (r.map Qi):=by
 obtain⟨rfl⟩:=H1;rw[Qm];simp -dsimp +contextual only[↓evA,eZ,Nat.reduceAdd,Nat.reduceMul,Nat.reduceBEq,Nat.reduceLeDiff,Nat.reduceLT,Tryz.func284,Tryz.f284,Qse,Qma,QO,Qf3,QfK,QfL]
 try simp only[Qas,eY]
 all_goals first|rfl|(simp +contextual only[evN]<;>rfl)
theorem Qmg(p f):CP T (n+4) 265 [.i .i64 p,.i .i64 f]=(Qa3 p f).map fun r=>.own 2 (r.map QjG):=by
 rw[Qm];simp -dsimp +contextual only[↓evA,eZ,Nat.reduceAdd,Nat.reduceMul,Nat.reduceBEq,Nat.reduceLeDiff,Nat.reduceLT,Tryz.func265,Tryz.f265,QN9,QsM,QO,Qi9]
 try simp only[Qa3,eY]
 all_goals first|rfl|(simp +contextual only[evN]<;>rfl)
theorem QkL(a2){R1 a R2 b}[H1:EncR Q6 R1 a][H2:EncL Qbn R2 b]:CP T (n+13) 212 [.agg R1,.i .i64 a2,.imm 3 R2]=(ZF a a2 b).map fun r=>.tup [.agg (Ja r.1),.b r.2]:=by
 rcases H1,H2 with⟨⟨rfl⟩,⟨rfl⟩⟩
 rw[Qm];simp -dsimp +contextual (maxSteps:=100000000) only[↓evA,eZ,Nat.reduceAdd,Nat.reduceMul,Nat.reduceBEq,Nat.reduceLeDiff,Nat.reduceLT,Tryz.func212,Tryz.f212,QKN,QsJ,srt,J3,Qm0,ZW,Qhk,VA,QeF,Qhi,Qmg,Zd]
 try simp only[ZF,eY]
 try simp only[List.contains_nil,Bool.not_false,Bool.and_true,Vz,List.length_append,List.length_cons,List.length_nil,Nat.zero_add,VD,VT]
 all_goals rfl
theorem QjD(a2){R1 a}[H1:EncR Q6 R1 a]:CP T (n+13) 213 [.agg R1,.i .i64 a2]=(J6 a a2).map fun r=>.tup [.agg (Ja r.1),.b r.2]:=by
 obtain⟨rfl⟩:=H1;rw[Qm];simp -dsimp +contextual (maxSteps:=100000000) only[↓evA,eZ,Nat.reduceAdd,Nat.reduceMul,Nat.reduceBEq,Nat.reduceLeDiff,Nat.reduceLT,Tryz.func213,Tryz.f213,QGx,Qsg,srt,J3,ZW,VA,Qhk,QeF,Zd]
 try simp only[J6,eY]
 try simp only[List.contains_nil,Bool.not_false,Bool.and_true,Vz,List.length_append,List.length_cons,List.length_nil,Nat.zero_add,VD,VT]
 all_goals rfl
theorem Qku(a2){R1 a}[H1:EncR Q6 R1 a]:CP T (n+13) 214 [.agg R1,.i .i64 a2]=(ZL a a2).map fun r=>.tup [.agg (Ja r.1),.b r.2]:=by
 obtain⟨rfl⟩:=H1;rw[Qm];simp -dsimp +contextual (maxSteps:=100000000) only[↓evA,eZ,Nat.reduceAdd,Nat.reduceMul,Nat.reduceBEq,Nat.reduceLeDiff,Nat.reduceLT,Tryz.func214,Tryz.f214,QHJ,QtQ,srt,VA,QO,Zd]
 try simp only[ZL,eY]
 all_goals rfl
theorem QiK{R1 a R2 e}[H1:EncR Q6 R1 a][H2:EncR QhI R2 e]:CP T (n+14) 151 [.agg R1,.agg R2]=(XS a e).map fun r=>.tup [.agg (Ja r.1),.b r.2]:=by
 rcases H1,H2 with⟨⟨rfl⟩,⟨rfl⟩⟩
 rw[Qm];simp -dsimp +contextual (maxSteps:=100000000) only[↓evA,eZ,Nat.reduceAdd,Nat.reduceMul,Nat.reduceBEq,Nat.reduceLeDiff,Nat.reduceLT,Tryz.func151,Tryz.f151,QN5,Qtg,QkO,Qjz,Qie,Qj0,QkL,QjD,Qku,VA]
 try simp only[XS,eY]
 all_goals rfl
theorem QgT(oxNo oxNow i){R1 l R2 oxFinds R3 oxSecrets R4 oxSlots R5 oxClaims R6 oxTrials R7 oxChain R8 oxBook}[H1:EncL QhI R1 l][H2:EncL QX R2 oxFinds][H3:EncL Xl R3 oxSecrets][H4:EncL VM R4 oxSlots][H5:EncL Vk R5 oxClaims][H6:EncL Jy R6 oxTrials][H7:EncL Zc R7 oxChain][H8:EncL Jk R8 oxBook]:LP T (n+15) 78 3 (frm [(1,.imm 14 R1),(4,.ptr 0 0 0),(5,.ptr 1 0 0),(6,.i .i64 i)]) [some (Ent.box [.i .i64 0,.nil,.nil,.nil,.nil,.nil,.nil,.nil,.i .i64 0]),some (Ent.box [.i .i64 oxNo,.sl 2,.sl 3,.sl 4,.sl 5,.sl 6,.sl 7,.sl 8,.i .i64 oxNow]),some (Ent.lst 8 R2),some (Ent.lst 3 R3),some (Ent.lst 3 R4),some (Ent.lst 5 R5),some (Ent.lst 4 R6),some (Ent.lst 5 R7),some (Ent.lst 4 R8)] =
  (run (VY l) ((⟨oxNo,oxFinds,oxSecrets,oxSlots,oxClaims,oxTrials,oxChain,oxBook,oxNow⟩:House),i)).map (fun(zr:House)=>(XE.exit 0,frm [(4,.ptr 0 0 0),(5,.ptr 1 0 0)],[some (Ent.box [.i .i64 0,.nil,.nil,.nil,.nil,.nil,.nil,.nil,.i .i64 0]),some (Ent.box [.i .i64 zr.No,.sl 2,.sl 3,.sl 4,.sl 5,.sl 6,.sl 7,.sl 8,.i .i64 zr.Now]),some (Ent.lst 8 (zr.Finds.map QX)),some (Ent.lst 3 (zr.Secrets.map Xl)),some (Ent.lst 3 (zr.Slots.map VM)),some (Ent.lst 5 (zr.Claims.map Vk)),some (Ent.lst 4 (zr.Trials.map Jy)),some (Ent.lst 5 (zr.Chain.map Zc)),some (Ent.lst 4 (zr.Book.map Jk))])):=by
 rcases H1,H2,H3,H4,H5,H6,H7,H8 with⟨⟨rfl⟩,⟨rfl⟩,⟨rfl⟩,⟨rfl⟩,⟨rfl⟩,⟨rfl⟩,⟨rfl⟩,⟨rfl⟩⟩
 rw[QK];simp -dsimp only[↓evA,evB,Qu,Tryz.func78,Tryz.f78,QN6,Qw6,TP,TZ,Nat.reduceAdd,Nat.reduceMul,Nat.reduceBEq,Nat.reduceLeDiff,Nat.reduceLT];refine run_map (fun(zs:House×Int)=>(frm [(1,.imm 14 (l.map QhI)),(4,.ptr 0 0 0),(5,.ptr 1 0 0),(6,.i .i64 zs.2)],[some (Ent.box [.i .i64 0,.nil,.nil,.nil,.nil,.nil,.nil,.nil,.i .i64 0]),some (Ent.box [.i .i64 zs.1.No,.sl 2,.sl 3,.sl 4,.sl 5,.sl 6,.sl 7,.sl 8,.i .i64 zs.1.Now]),some (Ent.lst 8 (zs.1.Finds.map QX)),some (Ent.lst 3 (zs.1.Secrets.map Xl)),some (Ent.lst 3 (zs.1.Slots.map VM)),some (Ent.lst 5 (zs.1.Claims.map Vk)),some (Ent.lst 4 (zs.1.Trials.map Jy)),some (Ent.lst 5 (zs.1.Chain.map Zc)),some (Ent.lst 4 (zs.1.Book.map Jk))])) _ ?_ ((⟨oxNo,oxFinds,oxSecrets,oxSlots,oxClaims,oxTrials,oxChain,oxBook,oxNow⟩:House),i)
 rintro⟨o,i⟩;simp -dsimp +contextual (maxSteps:=100000000) only[↓evA,eZ,Nat.reduceAdd,Nat.reduceMul,Nat.reduceBEq,Nat.reduceLeDiff,Nat.reduceLT,QiK]
 try simp only[VY,eY]
 all_goals rfl
theorem QeT{R1 a R2 l}[H1:EncR Q6 R1 a][H2:EncL QhI R2 l]:CP T (n+16) 78 [.agg R1,.imm 14 R2]=(ZY a l).map fun r=>.agg (Ja r):=by
 rcases H1,H2 with⟨⟨rfl⟩,⟨rfl⟩⟩
 rw[Qm];simp -dsimp +contextual (maxSteps:=100000000) only[↓evA,eZ,Nat.reduceAdd,Nat.reduceMul,Nat.reduceBEq,Nat.reduceLeDiff,Nat.reduceLT,Tryz.func78,Tryz.f78,QN6,Qw6,VA,QgT]
 try simp only[ZY,eY]
 all_goals rfl
theorem VR(a){R1 c}[H1:EncR Qw R1 c]:CA T (n+3) 80 [some (Ent.box R1)] [.ptr 0 0 0,.i .i64 a]=(XP c a).map fun r=>(.b r.2,[some (Ent.box (Qw r.1))]):=by
 obtain⟨rfl⟩:=H1;rw[QaG];simp -dsimp +contextual (maxSteps:=100000000) only[↓evA,eZ,Nat.reduceAdd,Nat.reduceMul,Nat.reduceBEq,Nat.reduceLeDiff,Nat.reduceLT,Tryz.func80,Tryz.f80,QPR,QAB,srt,Qp]
 try simp only[XP,eY]
 all_goals rfl
theorem Qjt(a r i){R1 c R2 o}[H1:EncR Qw R1 c][H2:EncL Qi R2 o]:LP T (n+4) 215 3 (frm [(0,.ptr 0 0 0),(2,.i .i64 a),(3,.i .i64 r),(9,.sl 1),(10,.i .i64 i)]) [some (Ent.box R1),some (Ent.lst 1 R2)] =
  (run (Z1 a r) (c,o,i)).map (fun(zr:l1Cur×(List Int))=>(XE.exit 0,frm [(0,.ptr 0 0 0),(9,.sl 1)],[some (Ent.box (Qw zr.1)),some (Ent.lst 1 (zr.2.map Qi))])):=by
 rcases H1,H2 with⟨⟨rfl⟩,⟨rfl⟩⟩
 rw[QK];simp -dsimp only[↓evA,evB,Qu,Tryz.func215,Tryz.f215,QCs,Qpm,TP,TZ,Nat.reduceAdd,Nat.reduceMul,Nat.reduceBEq,Nat.reduceLeDiff,Nat.reduceLT];apply QdK c o i;intro c o i;simp -dsimp +contextual only[↓evA,eZ,Nat.reduceAdd,Nat.reduceMul,Nat.reduceBEq,Nat.reduceLeDiff,Nat.reduceLT,srt,VR]
 try simp only[Z1,eY]
 all_goals rfl
theorem QmY(l a r){R1 c}[H1:EncR Qw R1 c]:CA T (n+5) 215 [some (Ent.box R1)] [.ptr 0 0 0,.i .i64 l,.i .i64 a,.i .i64 r]=(QbO c l a r).map fun r=>(.sl 1,[some (Ent.box (Qw r.1)),some (Ent.lst 1 (r.2.map Qi))]):=by
 obtain⟨rfl⟩:=H1;rw[QaG];simp -dsimp +contextual (maxSteps:=100000000) only[↓evA,eZ,Nat.reduceAdd,Nat.reduceMul,Nat.reduceBEq,Nat.reduceLeDiff,Nat.reduceLT,Tryz.func215,Tryz.f215,QCs,Qpm,srt,Qjt]
 try simp only[QbO,eY]
 all_goals rfl
theorem Qhe{R1 c}[H1:EncR Qw R1 c]:CA T (n+3) 216 [some (Ent.box R1)] [.ptr 0 0 0]=(QbV c).map fun r=>(.agg (Qiu r.2),[some (Ent.box (Qw r.1))]):=by
 obtain⟨rfl⟩:=H1;rw[QaG];simp -dsimp +contextual (maxSteps:=100000000) only[↓evA,eZ,Nat.reduceAdd,Nat.reduceMul,Nat.reduceBEq,Nat.reduceLeDiff,Nat.reduceLT,Tryz.func216,Tryz.f216,QNy,Qs0,srt,Qp]
 try simp only[QbV,eY]
 all_goals rfl
theorem Xs(i){R1 c}[H1:EncR Qw R1 c]:CA T (n+6) 152 [some (Ent.box R1)] [.ptr 0 0 0,.i .i64 i]=(QbW c i).map fun r=>(.agg [.i .i64 r.2.Id,.i .i64 r.2.Kind,.sl 1,.i .i64 r.2.SizeLow,.i .i64 r.2.SizeHigh,.sl 2,.i .i64 r.2.Span.From,.i .i64 r.2.Span.Until],[some (Ent.box (Qw r.1)),some (Ent.lst 1 (r.2.Colours.map Qi)),some (Ent.lst 1 (r.2.Places.map Qi))]):=by
 obtain⟨rfl⟩:=H1;rw[QaG];simp -dsimp +contextual (maxSteps:=100000000) only[↓evA,eZ,Nat.reduceAdd,Nat.reduceMul,Nat.reduceBEq,Nat.reduceLeDiff,Nat.reduceLT,Tryz.func152,Tryz.f152,QMQ,QtK,srt,Qp,QmY,Qhe]
 try simp only[QbW,eY]
 all_goals rfl
theorem QiV{R1 c}[H1:EncR Qw R1 c]:CA T (n+4) 154 [some (Ent.box R1)] [.ptr 0 0 0]=(QbI c).map fun r=>(.i .i64 r.2,[some (Ent.box (Qw r.1))]):=by
 obtain⟨rfl⟩:=H1;rw[QaG];simp -dsimp +contextual (maxSteps:=100000000) only[↓evA,eZ,Nat.reduceAdd,Nat.reduceMul,Nat.reduceBEq,Nat.reduceLeDiff,Nat.reduceLT,Tryz.func154,Tryz.f154,QIc,Qtv,srt,Zm]
 try simp only[QbI,eY]
 all_goals rfl
theorem Qox{R1 c}[H1:EncR Qw R1 c]:CA T (n+5) 155 [some (Ent.box R1)] [.ptr 0 0 0]=(QdD c).map fun r=>(.agg (Qiu r.2),[some (Ent.box (Qw r.1))]):=by
 obtain⟨rfl⟩:=H1;rw[QaG];simp -dsimp +contextual (maxSteps:=100000000) only[↓evA,eZ,Nat.reduceAdd,Nat.reduceMul,Nat.reduceBEq,Nat.reduceLeDiff,Nat.reduceLT,Tryz.func155,Tryz.f155,QLt,QtA,srt,Qhe,Qp,QiV,Zm]
 try simp only[QdD,eY]
 all_goals rfl
theorem Qoy{R1 c}[H1:EncR Qw R1 c]:CA T (n+7) 79 [some (Ent.box R1)] [.ptr 0 0 0]=(QdO c).map fun r=>(.agg [.i .i64 r.2.Id,.i .i64 r.2.Kind,.sl 1,.i .i64 r.2.SizeLow,.i .i64 r.2.SizeHigh,.sl 2,.i .i64 r.2.Span.From,.i .i64 r.2.Span.Until],[some (Ent.box (Qw r.1)),some (Ent.lst 1 (r.2.Colours.map Qi)),some (Ent.lst 1 (r.2.Places.map Qi))]):=by
 obtain⟨rfl⟩:=H1;rw[QaG];simp -dsimp +contextual (maxSteps:=100000000) only[↓evA,eZ,Nat.reduceAdd,Nat.reduceMul,Nat.reduceBEq,Nat.reduceLeDiff,Nat.reduceLT,Tryz.func79,Tryz.f79,QSt,QzY,srt,Qp,Xs,Zm,QiV,Qox]
 try simp only[QdO,eY]
 all_goals rfl
theorem Qam(a b):CP T (n+1) 156 [.i .i64 a,.i .i64 b]=(QcX a b).map fun r=>.i .i64 r:=by
 rw[Qm];simp -dsimp +contextual only[↓evA,eZ,Nat.reduceAdd,Nat.reduceMul,Nat.reduceBEq,Nat.reduceLeDiff,Nat.reduceLT,Tryz.func156,Tryz.f156,QLx,Qtz]
 try simp only[QcX,eY]
 all_goals rfl
def QDg:OT:=.one 3 (.alt (.one 0 (.alt (.one 1 (.alt (.one 2 (.one 4 (.one 5 (.one 6 (.one 7 (.one 8 (.done))))))) (.one 4 (.one 2 (.one 5 (.one 6 (.one 7 (.one 8 (.done))))))))) (.one 4 (.one 1 (.one 2 (.one 5 (.one 6 (.one 7 (.one 8 (.done)))))))))) (.one 4 (.one 0 (.one 1 (.one 2 (.one 5 (.one 6 (.one 7 (.one 8 (.done))))))))))
def QFN:OT:=.one 3 (.alt (.one 0 (.alt (.one 1 (.alt (.one 2 (.one 4 (.one 5 (.one 6 (.one 7 (.one 8 (.done))))))) (.one 4 (.one 2 (.one 5 (.one 6 (.one 7 (.one 8 (.done))))))))) (.one 4 (.one 1 (.one 2 (.one 5 (.one 6 (.one 7 (.one 8 (.done)))))))))) (.one 4 (.one 0 (.one 1 (.one 2 (.one 5 (.one 6 (.one 7 (.one 8 (.done))))))))))
def Qqm:OT:=.one 2 (.alt (.one 0 (.alt (.one 1 (.alt (.one 3 (.one 4 (.one 6 (.one 7 (.one 5 (.one 8 (.one 9 (.one 10 (.one 11 (.done)))))))))) (.one 6 (.alt (.one 3 (.one 4 (.one 7 (.one 5 (.one 8 (.one 9 (.one 10 (.one 11 (.done))))))))) (.one 7 (.one 3 (.one 4 (.one 5 (.one 8 (.one 9 (.one 10 (.one 11 (.done))))))))))))) (.alt (.one 3 (.one 1 (.one 4 (.one 6 (.one 7 (.one 5 (.one 8 (.one 9 (.one 10 (.one 11 (.done))))))))))) (.one 6 (.alt (.one 1 (.alt (.one 3 (.one 4 (.one 7 (.one 5 (.one 8 (.one 9 (.one 10 (.one 11 (.done))))))))) (.one 7 (.one 3 (.one 4 (.one 5 (.one 8 (.one 9 (.one 10 (.one 11 (.done))))))))))) (.alt (.one 3 (.one 1 (.one 4 (.one 7 (.one 5 (.one 8 (.one 9 (.one 10 (.one 11 (.done)))))))))) (.one 7 (.alt (.one 1 (.one 3 (.one 4 (.one 5 (.one 8 (.one 9 (.one 10 (.one 11 (.done))))))))) (.one 3 (.one 1 (.one 4 (.one 5 (.one 8 (.one 9 (.one 10 (.one 11 (.done))))))))))))))))) (.alt (.one 3 (.one 0 (.one 1 (.one 4 (.one 6 (.one 7 (.one 5 (.one 8 (.one 9 (.one 10 (.one 11 (.done)))))))))))) (.one 6 (.alt (.one 0 (.alt (.one 1 (.alt (.one 3 (.one 4 (.one 7 (.one 5 (.one 8 (.one 9 (.one 10 (.one 11 (.done))))))))) (.one 7 (.one 3 (.one 4 (.one 5 (.one 8 (.one 9 (.one 10 (.one 11 (.done))))))))))) (.alt (.one 3 (.one 1 (.one 4 (.one 7 (.one 5 (.one 8 (.one 9 (.one 10 (.one 11 (.done)))))))))) (.one 7 (.alt (.one 1 (.one 3 (.one 4 (.one 5 (.one 8 (.one 9 (.one 10 (.one 11 (.done))))))))) (.one 3 (.one 1 (.one 4 (.one 5 (.one 8 (.one 9 (.one 10 (.one 11 (.done)))))))))))))) (.alt (.one 3 (.one 0 (.one 1 (.one 4 (.one 7 (.one 5 (.one 8 (.one 9 (.one 10 (.one 11 (.done))))))))))) (.one 7 (.alt (.one 0 (.alt (.one 1 (.one 3 (.one 4 (.one 5 (.one 8 (.one 9 (.one 10 (.one 11 (.done))))))))) (.one 3 (.one 1 (.one 4 (.one 5 (.one 8 (.one 9 (.one 10 (.one 11 (.done))))))))))) (.one 3 (.one 0 (.one 1 (.one 4 (.one 5 (.one 8 (.one 9 (.one 10 (.one 11 (.done)))))))))))))))))
theorem Qix:An81.ot=[(6,QDg),(7,QFN),(11,Qqm)]:=rfl
theorem Qfp:An81.ord=[]:=rfl
theorem QiJ:An81.ac=[]:=rfl
theorem QiO:An81.av=[(1,[152]),(3,[80]),(5,[80]),(6,[77]),(7,[77]),(8,[80]),(10,[80]),(11,[77])]:=rfl
theorem Qjf:An81.an=[]:=rfl
theorem QiA:An81.eb=[]:=rfl
theorem QiX:An81.ak=[0]:=rfl
theorem Qi2:An81.jn=[]:=rfl
theorem QiI:An81.fz=[]:=rfl
theorem Qh7:An81.fc=[]:=rfl
theorem Qh3:An81.nr=some [.r 0,.g 64 2 1,.g 64 5 1]:=rfl
theorem Qi0:An81.wr=true:=rfl
def sfx:Nat→Code→Code
 |n+1,.seq _ b=>sfx n b
 |_,c=>c
def rps:Nat→Code→Code→Code
 |n+1,s,.seq a b=>.seq a (rps n s b)
 |_,s,_=>s
theorem Qqa(n s a b):rps (n+1) s (.seq a b)=.seq a (rps n s b):=rfl
theorem Qqq(s c):rps 0 s c=s:=rfl
noncomputable def B8:Code:=Tryz.f81.body.getD .skip
noncomputable def S5:Code:=sfx 4 B8
noncomputable def S8:Code:=sfx 5 B8
noncomputable def S10:Code:=sfx 6 B8
noncomputable def F8:Func:={ Tryz.f81 with body:=some (rps 4 S5 (Tryz.f81.body.getD .skip)) }
theorem QF6:Tryz.prog.funcs[81]?=some F8:=Tryz.func81
noncomputable def R5:Code:=rps 1 S8 (sfx 4 B8)
noncomputable def R8:Code:=rps 1 S10 (sfx 5 B8)
theorem Qki(n a b):sfx (n+1) (.seq a b)=sfx n b:=rfl
theorem Qj5(c):sfx 0 c=c:=rfl
theorem QCu:S5=R5:=rfl
theorem QBO:S8=R8:=rfl
theorem QAM{g:Fr}(d k:Int)(lo hi:Int)(fr un:Int){R1 c R2 f R3 co R4 pl}[H1:EncR Qw R1 c][H2:EncR QX R2 f][H3:EncL Qi R3 co][H4:EncL Qi R4 pl](h0:g 0=.ptr 0 0 0)(h4:g 4=.ptr 1 0 0)(h6:g 6=.ptr 2 0 0)(h7:g 7=.ptr 5 0 0):Vl Tryz.prog (orc T (n+6) 81) An81 S10 (Qdg T.P An81.ak An81.nr 64 [ResultVar.cell 6 68]) g [some (Ent.box R1),some (Ent.box R2),some (Ent.box [.i .i64 0,.i .i64 0,.nil,.i .i64 0,.i .i64 0,.nil,.i .i64 0,.i .i64 0]),some (Ent.lst 1 R3),some (Ent.lst 1 R4),some (Ent.box [.i .i64 d,.i .i64 k,.sl 3,.i .i64 lo,.i .i64 hi,.sl 4,.i .i64 fr,.i .i64 un])] ()=(VB c f d k co lo hi pl fr un).map fun r=>(.agg [.i .i64 r.2.Id,.i .i64 r.2.Kind,.sl 1,.i .i64 r.2.SizeLow,.i .i64 r.2.SizeHigh,.sl 2,.i .i64 r.2.Span.From,.i .i64 r.2.Span.Until],[some (Ent.box (Qw r.1)),some (Ent.lst 1 (r.2.Colours.map Qi)),some (Ent.lst 1 (r.2.Places.map Qi))]):=by
 rcases H1,H2,H3,H4 with⟨⟨rfl⟩,⟨rfl⟩,⟨rfl⟩,⟨rfl⟩⟩
 obtain⟨X,hX⟩:∃X,X=S10:=⟨_,rfl⟩;rw[←hX];simp only[S10,Qki,Qj5,B8,Tryz.f81,Option.getD_some]at hX;subst hX;simp -dsimp +contextual (maxSteps:=100000000) only[↓evA,eZ,Nat.reduceAdd,Nat.reduceMul,Nat.reduceBEq,Nat.reduceLeDiff,Nat.reduceLT,Qon,Qix,Qi0,Qfp,QiJ,QiO,Qjf,QiA,QiX,Qi2,QiI,Qh7,Qh3,srt,Xs,VR,Qp,Qam,J9,Qqm,h0,h4,h6,h7]
 try simp only[VB,eY]
 all_goals rfl
theorem Qzf{g:Fr}(d k:Int)(lo hi:Int)(fr un:Int){x3:Option Ent}{R1 c R2 f R3 co R4 pl}[H1:EncR Qw R1 c][H2:EncR QX R2 f][H3:EncL Qi R3 co][H4:EncL Qi R4 pl](h0:g 0=.ptr 0 0 0)(h4:g 4=.ptr 1 0 0)(h6:g 6=.ptr 2 0 0)(h7:g 7=.ptr 5 0 0):Vl Tryz.prog (orc T (n+6) 81) An81 S10 (Qdg T.P An81.ak An81.nr 64 [ResultVar.cell 6 68]) g [some (Ent.box R1),some (Ent.box R2),some (Ent.box [.i .i64 0,.i .i64 0,.nil,.i .i64 0,.i .i64 0,.nil,.i .i64 0,.i .i64 0]),x3,some (Ent.lst 1 R4),some (Ent.box [.i .i64 d,.i .i64 k,.sl 6,.i .i64 lo,.i .i64 hi,.sl 4,.i .i64 fr,.i .i64 un]),some (Ent.lst 1 R3)] ()=(VB c f d k co lo hi pl fr un).map fun r=>(.agg [.i .i64 r.2.Id,.i .i64 r.2.Kind,.sl 1,.i .i64 r.2.SizeLow,.i .i64 r.2.SizeHigh,.sl 2,.i .i64 r.2.Span.From,.i .i64 r.2.Span.Until],[some (Ent.box (Qw r.1)),some (Ent.lst 1 (r.2.Colours.map Qi)),some (Ent.lst 1 (r.2.Places.map Qi))]):=by
 rcases H1,H2,H3,H4 with⟨⟨rfl⟩,⟨rfl⟩,⟨rfl⟩,⟨rfl⟩⟩
 obtain⟨X,hX⟩:∃X,X=S10:=⟨_,rfl⟩;rw[←hX];simp only[S10,Qki,Qj5,B8,Tryz.f81,Option.getD_some]at hX;subst hX;simp -dsimp +contextual (maxSteps:=100000000) only[↓evA,eZ,Nat.reduceAdd,Nat.reduceMul,Nat.reduceBEq,Nat.reduceLeDiff,Nat.reduceLT,Qon,Qix,Qi0,Qfp,QiJ,QiO,Qjf,QiA,QiX,Qi2,QiI,Qh7,Qh3,srt,Xs,VR,Qp,Qam,J9,Qqm,h0,h4,h6,h7]
 try simp only[VB,eY]
 all_goals rfl
theorem QBb{g:Fr}(d k:Int)(lo hi:Int)(fr un:Int){x4:Option Ent}{R1 c R2 f R3 co R4 pl}[H1:EncR Qw R1 c][H2:EncR QX R2 f][H3:EncL Qi R3 co][H4:EncL Qi R4 pl](h0:g 0=.ptr 0 0 0)(h4:g 4=.ptr 1 0 0)(h6:g 6=.ptr 2 0 0)(h7:g 7=.ptr 5 0 0):Vl Tryz.prog (orc T (n+6) 81) An81 S10 (Qdg T.P An81.ak An81.nr 64 [ResultVar.cell 6 68]) g [some (Ent.box R1),some (Ent.box R2),some (Ent.box [.i .i64 0,.i .i64 0,.nil,.i .i64 0,.i .i64 0,.nil,.i .i64 0,.i .i64 0]),some (Ent.lst 1 R3),x4,some (Ent.box [.i .i64 d,.i .i64 k,.sl 3,.i .i64 lo,.i .i64 hi,.sl 6,.i .i64 fr,.i .i64 un]),some (Ent.lst 1 R4)] ()=(VB c f d k co lo hi pl fr un).map fun r=>(.agg [.i .i64 r.2.Id,.i .i64 r.2.Kind,.sl 1,.i .i64 r.2.SizeLow,.i .i64 r.2.SizeHigh,.sl 2,.i .i64 r.2.Span.From,.i .i64 r.2.Span.Until],[some (Ent.box (Qw r.1)),some (Ent.lst 1 (r.2.Colours.map Qi)),some (Ent.lst 1 (r.2.Places.map Qi))]):=by
 rcases H1,H2,H3,H4 with⟨⟨rfl⟩,⟨rfl⟩,⟨rfl⟩,⟨rfl⟩⟩
 obtain⟨X,hX⟩:∃X,X=S10:=⟨_,rfl⟩;rw[←hX];simp only[S10,Qki,Qj5,B8,Tryz.f81,Option.getD_some]at hX;subst hX;simp -dsimp +contextual (maxSteps:=100000000) only[↓evA,eZ,Nat.reduceAdd,Nat.reduceMul,Nat.reduceBEq,Nat.reduceLeDiff,Nat.reduceLT,Qon,Qix,Qi0,Qfp,QiJ,QiO,Qjf,QiA,QiX,Qi2,QiI,Qh7,Qh3,srt,Xs,VR,Qp,Qam,J9,Qqm,h0,h4,h6,h7]
 try simp only[VB,eY]
 all_goals rfl
theorem QAt{g:Fr}(d k:Int)(lo hi:Int)(fr un:Int){x3:Option Ent}{x4:Option Ent}{R1 c R2 f R3 co R4 pl}[H1:EncR Qw R1 c][H2:EncR QX R2 f][H3:EncL Qi R3 co][H4:EncL Qi R4 pl](h0:g 0=.ptr 0 0 0)(h4:g 4=.ptr 1 0 0)(h6:g 6=.ptr 2 0 0)(h7:g 7=.ptr 5 0 0):Vl Tryz.prog (orc T (n+6) 81) An81 S10 (Qdg T.P An81.ak An81.nr 64 [ResultVar.cell 6 68]) g [some (Ent.box R1),some (Ent.box R2),some (Ent.box [.i .i64 0,.i .i64 0,.nil,.i .i64 0,.i .i64 0,.nil,.i .i64 0,.i .i64 0]),x3,x4,some (Ent.box [.i .i64 d,.i .i64 k,.sl 6,.i .i64 lo,.i .i64 hi,.sl 7,.i .i64 fr,.i .i64 un]),some (Ent.lst 1 R3),some (Ent.lst 1 R4)] ()=(VB c f d k co lo hi pl fr un).map fun r=>(.agg [.i .i64 r.2.Id,.i .i64 r.2.Kind,.sl 1,.i .i64 r.2.SizeLow,.i .i64 r.2.SizeHigh,.sl 2,.i .i64 r.2.Span.From,.i .i64 r.2.Span.Until],[some (Ent.box (Qw r.1)),some (Ent.lst 1 (r.2.Colours.map Qi)),some (Ent.lst 1 (r.2.Places.map Qi))]):=by
 rcases H1,H2,H3,H4 with⟨⟨rfl⟩,⟨rfl⟩,⟨rfl⟩,⟨rfl⟩⟩
 obtain⟨X,hX⟩:∃X,X=S10:=⟨_,rfl⟩;rw[←hX];simp only[S10,Qki,Qj5,B8,Tryz.f81,Option.getD_some]at hX;subst hX;simp -dsimp +contextual (maxSteps:=100000000) only[↓evA,eZ,Nat.reduceAdd,Nat.reduceMul,Nat.reduceBEq,Nat.reduceLeDiff,Nat.reduceLT,Qon,Qix,Qi0,Qfp,QiJ,QiO,Qjf,QiA,QiX,Qi2,QiI,Qh7,Qh3,srt,Xs,VR,Qp,Qam,J9,Qqm,h0,h4,h6,h7]
 try simp only[VB,eY]
 all_goals rfl
theorem QE5{g:Fr}(d k:Int)(lo hi:Int)(fr un:Int){R1 c R2 f R3 co R4 pl}[H1:EncR Qw R1 c][H2:EncR QX R2 f][H3:EncL Qi R3 co][H4:EncL Qi R4 pl](h0:g 0=.ptr 0 0 0)(h4:g 4=.ptr 1 0 0)(h6:g 6=.ptr 2 0 0)(h7:g 7=.ptr 5 0 0):Vl Tryz.prog (orc T (n+6) 81) An81 S8 (Qdg T.P An81.ak An81.nr 64 [ResultVar.cell 6 68]) g [some (Ent.box R1),some (Ent.box R2),some (Ent.box [.i .i64 0,.i .i64 0,.nil,.i .i64 0,.i .i64 0,.nil,.i .i64 0,.i .i64 0]),some (Ent.lst 1 R3),some (Ent.lst 1 R4),some (Ent.box [.i .i64 d,.i .i64 k,.sl 3,.i .i64 lo,.i .i64 hi,.sl 4,.i .i64 fr,.i .i64 un])] ()=(JP c f d k co lo hi pl fr un).map fun r=>(.agg [.i .i64 r.2.Id,.i .i64 r.2.Kind,.sl 1,.i .i64 r.2.SizeLow,.i .i64 r.2.SizeHigh,.sl 2,.i .i64 r.2.Span.From,.i .i64 r.2.Span.Until],[some (Ent.box (Qw r.1)),some (Ent.lst 1 (r.2.Colours.map Qi)),some (Ent.lst 1 (r.2.Places.map Qi))]):=by
 rcases H1,H2,H3,H4 with⟨⟨rfl⟩,⟨rfl⟩,⟨rfl⟩,⟨rfl⟩⟩
 obtain⟨X,hX⟩:∃X,X=S8:=⟨_,rfl⟩;rw[←hX];simp only[QBO,R8,Qki,Qj5,B8,Tryz.f81,Option.getD_some,Qqa,Qqq]at hX;subst hX;simp -dsimp +contextual (maxSteps:=100000000) only[↓evA,eZ,Nat.reduceAdd,Nat.reduceMul,Nat.reduceBEq,Nat.reduceLeDiff,Nat.reduceLT,Qon,Qix,Qi0,Qfp,QiJ,QiO,Qjf,QiA,QiX,Qi2,QiI,Qh7,Qh3,srt,Xs,VR,Qp,Qam,J9,QAM n,QBb n,h0,h4,h6,h7]
 try simp only[JP,eY]
 all_goals rfl
theorem QE2{g:Fr}(d k:Int)(lo hi:Int)(fr un:Int){x3:Option Ent}{R1 c R2 f R3 co R4 pl}[H1:EncR Qw R1 c][H2:EncR QX R2 f][H3:EncL Qi R3 co][H4:EncL Qi R4 pl](h0:g 0=.ptr 0 0 0)(h4:g 4=.ptr 1 0 0)(h6:g 6=.ptr 2 0 0)(h7:g 7=.ptr 5 0 0):Vl Tryz.prog (orc T (n+6) 81) An81 S8 (Qdg T.P An81.ak An81.nr 64 [ResultVar.cell 6 68]) g [some (Ent.box R1),some (Ent.box R2),some (Ent.box [.i .i64 0,.i .i64 0,.nil,.i .i64 0,.i .i64 0,.nil,.i .i64 0,.i .i64 0]),x3,some (Ent.lst 1 R4),some (Ent.box [.i .i64 d,.i .i64 k,.sl 6,.i .i64 lo,.i .i64 hi,.sl 4,.i .i64 fr,.i .i64 un]),some (Ent.lst 1 R3)] ()=(JP c f d k co lo hi pl fr un).map fun r=>(.agg [.i .i64 r.2.Id,.i .i64 r.2.Kind,.sl 1,.i .i64 r.2.SizeLow,.i .i64 r.2.SizeHigh,.sl 2,.i .i64 r.2.Span.From,.i .i64 r.2.Span.Until],[some (Ent.box (Qw r.1)),some (Ent.lst 1 (r.2.Colours.map Qi)),some (Ent.lst 1 (r.2.Places.map Qi))]):=by
 rcases H1,H2,H3,H4 with⟨⟨rfl⟩,⟨rfl⟩,⟨rfl⟩,⟨rfl⟩⟩
 obtain⟨X,hX⟩:∃X,X=S8:=⟨_,rfl⟩;rw[←hX];simp only[QBO,R8,Qki,Qj5,B8,Tryz.f81,Option.getD_some,Qqa,Qqq]at hX;subst hX;simp -dsimp +contextual (maxSteps:=100000000) only[↓evA,eZ,Nat.reduceAdd,Nat.reduceMul,Nat.reduceBEq,Nat.reduceLeDiff,Nat.reduceLT,Qon,Qix,Qi0,Qfp,QiJ,QiO,Qjf,QiA,QiX,Qi2,QiI,Qh7,Qh3,srt,Xs,VR,Qp,Qam,J9,Qzf n,QAt n,h0,h4,h6,h7]
 try simp only[JP,eY]
 all_goals rfl
theorem QE6{g:Fr}(d k:Int)(lo hi:Int)(fr un:Int){R1 c R2 f R3 co R4 pl}[H1:EncR Qw R1 c][H2:EncR QX R2 f][H3:EncL Qi R3 co][H4:EncL Qi R4 pl](h0:g 0=.ptr 0 0 0)(h4:g 4=.ptr 1 0 0)(h6:g 6=.ptr 2 0 0)(h7:g 7=.ptr 5 0 0):Vl Tryz.prog (orc T (n+6) 81) An81 S5 (Qdg T.P An81.ak An81.nr 64 [ResultVar.cell 6 68]) g [some (Ent.box R1),some (Ent.box R2),some (Ent.box [.i .i64 0,.i .i64 0,.nil,.i .i64 0,.i .i64 0,.nil,.i .i64 0,.i .i64 0]),some (Ent.lst 1 R3),some (Ent.lst 1 R4),some (Ent.box [.i .i64 d,.i .i64 k,.sl 3,.i .i64 lo,.i .i64 hi,.sl 4,.i .i64 fr,.i .i64 un])] ()=(JR c f d k co lo hi pl fr un).map fun r=>(.agg [.i .i64 r.2.Id,.i .i64 r.2.Kind,.sl 1,.i .i64 r.2.SizeLow,.i .i64 r.2.SizeHigh,.sl 2,.i .i64 r.2.Span.From,.i .i64 r.2.Span.Until],[some (Ent.box (Qw r.1)),some (Ent.lst 1 (r.2.Colours.map Qi)),some (Ent.lst 1 (r.2.Places.map Qi))]):=by
 rcases H1,H2,H3,H4 with⟨⟨rfl⟩,⟨rfl⟩,⟨rfl⟩,⟨rfl⟩⟩
 obtain⟨X,hX⟩:∃X,X=S5:=⟨_,rfl⟩;rw[←hX];simp only[QCu,R5,Qki,Qj5,B8,Tryz.f81,Option.getD_some,Qqa,Qqq]at hX;subst hX;simp -dsimp +contextual (maxSteps:=100000000) only[↓evA,eZ,Nat.reduceAdd,Nat.reduceMul,Nat.reduceBEq,Nat.reduceLeDiff,Nat.reduceLT,Qon,Qix,Qi0,Qfp,QiJ,QiO,Qjf,QiA,QiX,Qi2,QiI,Qh7,Qh3,srt,Xs,VR,Qp,Qam,J9,QDg,QFN,QE5 n,h0,h4,h6,h7]
 try simp only[JR,eY]
 all_goals rfl
theorem QCW{g:Fr}(d k:Int)(lo hi:Int)(fr un:Int){x3:Option Ent}{R1 c R2 f R3 co R4 pl}[H1:EncR Qw R1 c][H2:EncR QX R2 f][H3:EncL Qi R3 co][H4:EncL Qi R4 pl](h0:g 0=.ptr 0 0 0)(h4:g 4=.ptr 1 0 0)(h6:g 6=.ptr 2 0 0)(h7:g 7=.ptr 5 0 0):Vl Tryz.prog (orc T (n+6) 81) An81 S5 (Qdg T.P An81.ak An81.nr 64 [ResultVar.cell 6 68]) g [some (Ent.box R1),some (Ent.box R2),some (Ent.box [.i .i64 0,.i .i64 0,.nil,.i .i64 0,.i .i64 0,.nil,.i .i64 0,.i .i64 0]),x3,some (Ent.lst 1 R4),some (Ent.box [.i .i64 d,.i .i64 k,.sl 6,.i .i64 lo,.i .i64 hi,.sl 4,.i .i64 fr,.i .i64 un]),some (Ent.lst 1 R3)] ()=(JR c f d k co lo hi pl fr un).map fun r=>(.agg [.i .i64 r.2.Id,.i .i64 r.2.Kind,.sl 1,.i .i64 r.2.SizeLow,.i .i64 r.2.SizeHigh,.sl 2,.i .i64 r.2.Span.From,.i .i64 r.2.Span.Until],[some (Ent.box (Qw r.1)),some (Ent.lst 1 (r.2.Colours.map Qi)),some (Ent.lst 1 (r.2.Places.map Qi))]):=by
 rcases H1,H2,H3,H4 with⟨⟨rfl⟩,⟨rfl⟩,⟨rfl⟩,⟨rfl⟩⟩
 obtain⟨X,hX⟩:∃X,X=S5:=⟨_,rfl⟩;rw[←hX];simp only[QCu,R5,Qki,Qj5,B8,Tryz.f81,Option.getD_some,Qqa,Qqq]at hX;subst hX;simp -dsimp +contextual (maxSteps:=100000000) only[↓evA,eZ,Nat.reduceAdd,Nat.reduceMul,Nat.reduceBEq,Nat.reduceLeDiff,Nat.reduceLT,Qon,Qix,Qi0,Qfp,QiJ,QiO,Qjf,QiA,QiX,Qi2,QiI,Qh7,Qh3,srt,Xs,VR,Qp,Qam,J9,QDg,QFN,QE2 n,h0,h4,h6,h7]
 try simp only[JR,eY]
 all_goals rfl
theorem Qoa(i){R1 c R2 f}[H1:EncR Qw R1 c][H2:EncR QX R2 f]:CA T (n+7) 81 [some (Ent.box R1)] [.ptr 0 0 0,.agg R2,.i .i64 i]=(QcF c f i).map fun r=>(.agg [.i .i64 r.2.Id,.i .i64 r.2.Kind,.sl 1,.i .i64 r.2.SizeLow,.i .i64 r.2.SizeHigh,.sl 2,.i .i64 r.2.Span.From,.i .i64 r.2.Span.Until],[some (Ent.box (Qw r.1)),some (Ent.lst 1 (r.2.Colours.map Qi)),some (Ent.lst 1 (r.2.Places.map Qi))]):=by
 rcases H1,H2 with⟨⟨rfl⟩,⟨rfl⟩⟩
 rw[QaG];simp -dsimp +contextual (maxSteps:=100000000) only[↓evA,eZ,Nat.reduceAdd,Nat.reduceMul,Nat.reduceBEq,Nat.reduceLeDiff,Nat.reduceLT,QF6,F8,Tryz.f81,Option.getD_some,Qqa,Qqq,Qon,Qix,Qi0,Qfp,QiJ,QiO,Qjf,QiA,QiX,Qi2,QiI,Qh7,Qh3,srt,Xs,VR,Qp,Qam,J9,QE6 n,QCW n]
 try simp only[QcF,eY]
 all_goals rfl
theorem QfR(i){R1 c R2 c2 R3 l}[H1:EncL QbK R1 c][H2:EncR Qw R2 c2][H3:EncL Ja R3 l]:LP T (n+17) 20 4 (frm [(0,.imm 1 R1),(2,.ptr 0 0 0),(5,.ptr 1 0 0),(6,.sl 2),(7,.i .i64 i)]) [some (Ent.box [.i .i64 0,.i .i64 0,.nil,.i .i64 0,.i .i64 0,.nil,.i .i64 0,.i .i64 0]),some (Ent.box R2),some (Ent.lst 9 R3)] =
  (run (XK c) (c2,l,i)).map (fun(zr:l1Cur×(List House))=>(XE.exit 0,frm [(0,.imm 1 (c.map QbK)),(2,.ptr 0 0 0),(5,.ptr 1 0 0),(6,.sl 2)],[some (Ent.box [.i .i64 0,.i .i64 0,.nil,.i .i64 0,.i .i64 0,.nil,.i .i64 0,.i .i64 0]),some (Ent.box (Qw zr.1)),some (Ent.lst 9 (zr.2.map Ja))])):=by
 rcases H1,H2,H3 with⟨⟨rfl⟩,⟨rfl⟩,⟨rfl⟩⟩
 rw[QK];simp -dsimp only[↓evA,evB,Qu,Tryz.func20,Tryz.f20,QG0,QxQ,TP,TZ,Nat.reduceAdd,Nat.reduceMul,Nat.reduceBEq,Nat.reduceLeDiff,Nat.reduceLT];apply QdK c2 l i;intro c2 l i;simp -dsimp +contextual (maxSteps:=100000000) only[↓evA,eZ,Nat.reduceAdd,Nat.reduceMul,Nat.reduceBEq,Nat.reduceLeDiff,Nat.reduceLT,srt,Qfz,Qf9,QeT]
 try simp only[XK,eY]
 try simp only[List.contains_nil,Bool.not_false,Bool.and_true,Vz,List.length_append,List.length_cons,List.length_nil,Nat.zero_add,VD,VT]
 all_goals rfl
end Go.Proofs.YtonidbheohhgdaaGreat
