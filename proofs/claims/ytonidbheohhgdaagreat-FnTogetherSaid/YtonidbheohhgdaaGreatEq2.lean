import Derived.Test.YtonidbheohhgdaaGreatEq1
namespace Go.Proofs.YtonidbheohhgdaaGreat
open Go Go.Proofs Go.Proofs.YtonidbheohhgdaaGreat.Am
set_option maxHeartbeats 4000000
set_option linter.unusedVariables false
set_option linter.unusedSimpArgs false
set_option linter.defProp false
set_option maxRecDepth 100000
variable(n:Nat)
theorem QmW{R1 c}[H1:EncR Qw R1 c]:CA T (n+8) 93 [some (Ent.box R1)] [.ptr 0 0 0]=(QcY c).map fun r=>(.agg [.i .i64 r.2.Kind,.i .i64 r.2.Find.Thing.Id,.i .i64 r.2.Find.Thing.Kind,.i .i64 r.2.Find.Thing.Colour,.i .i64 r.2.Find.Thing.Size,.i .i64 r.2.Find.Thing.Worth,.i .i64 r.2.Find.Place,.i .i64 r.2.Find.At,.i .i64 r.2.Find.Finder,.sl 1,.i .i64 r.2.Id,.i .i64 r.2.Who,.i .i64 r.2.N,.sl 2],[some (Ent.box (Qw r.1)),some (Ent.lst 2 (r.2.Marks.map Zd)),some (Ent.lst 3 (r.2.Bids.map Qbp))]):=by
 obtain⟨rfl⟩:=H1;rw[QaJ];simp -dsimp +contextual (maxSteps:=100000000) only[↓evA,eZ,Nat.reduceAdd,Nat.reduceMul,Nat.reduceBEq,Nat.reduceLeDiff,Nat.reduceLT,Tryz.func93,Tryz.f93,QOS,QzH,srt,Zk,Qo,Qgd,QmR]
 try simp only[QcY,eY]
 all_goals rfl
theorem Qi5(i){R1 c R2 l}[H1:EncR Qw R1 c][H2:EncL Qfr R2 l]:LP T (n+9) 32 3 (frm [(0,.ptr 0 0 0),(5,.sl 1),(6,.i .i64 i)]) [some (Ent.box R1),some (Ent.lst 14 R2)] =
  (run Zj (c,l,i)).map (fun(zr:l1Cur×(List Event))=>(XE.exit 0,frm [(0,.ptr 0 0 0),(5,.sl 1)],[some (Ent.box (Qw zr.1)),some (Ent.lst 14 (zr.2.map Qfr))])):=by
 rcases H1,H2 with⟨⟨rfl⟩,⟨rfl⟩⟩
 rw[QK];simp -dsimp only[↓evA,evB,Qu,Tryz.func32,Tryz.f32,QHq,Qxo,TP,TZ,Nat.reduceAdd,Nat.reduceMul,Nat.reduceBEq,Nat.reduceLeDiff,Nat.reduceLT];apply QdQ c l i;intro c l i;simp -dsimp +contextual only[↓evA,eZ,Nat.reduceAdd,Nat.reduceMul,Nat.reduceBEq,Nat.reduceLeDiff,Nat.reduceLT,srt,QmW]
 try simp only[Zj,eY]
 all_goals rfl
theorem Qgv(m){R1 c}[H1:EncR Qw R1 c]:CA T (n+10) 32 [some (Ent.box R1)] [.ptr 0 0 0,.i .i64 m]=(Qa1 c m).map fun r=>(.sl 1,[some (Ent.box (Qw r.1)),some (Ent.lst 14 (r.2.map Qfr))]):=by
 obtain⟨rfl⟩:=H1;rw[QaJ];simp -dsimp +contextual (maxSteps:=100000000) only[↓evA,eZ,Nat.reduceAdd,Nat.reduceMul,Nat.reduceBEq,Nat.reduceLeDiff,Nat.reduceLT,Tryz.func32,Tryz.f32,QHq,Qxo,srt,Qgd,Qo,Qi5]
 try simp only[Qa1,eY]
 all_goals rfl
theorem QiL(k){R1 l R2 f}[H1:EncL QX R1 l][H2:EncR QX R2 f]:LP T (n+1) 251 2 (frm [(0,.imm 8 R1),(3,.ptr 0 0 0),(6,.i .i64 k)]) [some (Ent.box R2)] =
  (run (Zm l f) k).map (fun(zr:Int)=>(XE.exit 0,frm [(0,.imm 8 (l.map QX)),(3,.ptr 0 0 0),(6,.i .i64 zr)],[some (Ent.box (QX f))])):=by
 rcases H1,H2 with⟨⟨rfl⟩,⟨rfl⟩⟩
 rw[QK];simp -dsimp only[↓evA,evB,Qu,Tryz.func251,Tryz.f251,QB3,Qps,TP,TZ,Nat.reduceAdd,Nat.reduceMul,Nat.reduceBEq,Nat.reduceLeDiff,Nat.reduceLT];apply QP k;intro k;simp -dsimp +contextual only[↓evA,eZ,Nat.reduceAdd,Nat.reduceMul,Nat.reduceBEq,Nat.reduceLeDiff,Nat.reduceLT]
 try simp only[Zm,eY]
 try simp only[List.contains_nil,Bool.not_false,Bool.and_true,VA,List.length_append,List.length_cons,List.length_nil,Nat.zero_add,VC,VT]
 all_goals rfl
theorem QlS{R1 l R2 f}[H1:EncL QX R1 l][H2:EncR QX R2 f]:CP T (n+6) 251 [.imm 8 R1,.agg R2]=(QaW l f).map fun r=>.tup [.own 8 (r.1.map QX),.b r.2]:=by
 rcases H1,H2 with⟨⟨rfl⟩,⟨rfl⟩⟩
 rw[Qm];simp -dsimp +contextual only[↓evA,eZ,Nat.reduceAdd,Nat.reduceMul,Nat.reduceBEq,Nat.reduceLeDiff,Nat.reduceLT,Tryz.func251,Tryz.f251,QB3,Qps,QfE,QiL]
 try simp only[QaW,eY]
 try simp only[List.contains_nil,Bool.not_false,Bool.and_true,VA,List.length_append,List.length_cons,List.length_nil,Nat.zero_add,VC,VT]
 all_goals first|rfl|(simp +contextual only[evN]<;>rfl)
theorem QgZ(k){R1 l R2 a}[H1:EncL Jt R1 l][H2:EncR Jt R2 a]:LP T (n+1) 252 2 (frm [(0,.imm 3 R1),(3,.ptr 0 0 0),(6,.i .i64 k)]) [some (Ent.box R2)] =
  (run (Jp l a) k).map (fun(zr:Int)=>(XE.exit 0,frm [(0,.imm 3 (l.map Jt)),(3,.ptr 0 0 0),(6,.i .i64 zr)],[some (Ent.box (Jt a))])):=by
 rcases H1,H2 with⟨⟨rfl⟩,⟨rfl⟩⟩
 rw[QK];simp -dsimp only[↓evA,evB,Qu,Tryz.func252,Tryz.f252,QBJ,Qpv,TP,TZ,Nat.reduceAdd,Nat.reduceMul,Nat.reduceBEq,Nat.reduceLeDiff,Nat.reduceLT];apply QP k;intro k;simp -dsimp +contextual only[↓evA,eZ,Nat.reduceAdd,Nat.reduceMul,Nat.reduceBEq,Nat.reduceLeDiff,Nat.reduceLT]
 try simp only[Jp,eY]
 try simp only[List.contains_nil,Bool.not_false,Bool.and_true,VA,List.length_append,List.length_cons,List.length_nil,Nat.zero_add,VC,VT]
 all_goals rfl
theorem Qjt{R1 l R2 a}[H1:EncL Jt R1 l][H2:EncR Jt R2 a]:CP T (n+6) 252 [.imm 3 R1,.agg R2]=(ZY l a).map fun r=>.tup [.own 3 (r.1.map Xl),.b r.2]:=by
 rcases H1,H2 with⟨⟨rfl⟩,⟨rfl⟩⟩
 rw[Qm];simp -dsimp +contextual only[↓evA,eZ,Nat.reduceAdd,Nat.reduceMul,Nat.reduceBEq,Nat.reduceLeDiff,Nat.reduceLT,Tryz.func252,Tryz.f252,QBJ,Qpv,Qgz,Qel,QgZ]
 try simp only[ZY,eY]
 try simp only[List.contains_nil,Bool.not_false,Bool.and_true,VA,List.length_append,List.length_cons,List.length_nil,Nat.zero_add,VC,VT]
 all_goals first|rfl|(simp +contextual only[evN]<;>rfl)
theorem Qe8(s k i){R1 l}[H1:EncL VM R1 l]:LP T (n+1) 278 3 (frm [(0,.imm 3 R1),(1,.i .i64 s),(5,.i .i64 k),(6,.i .i64 i)]) [] =
  (run (QO l s) (k,i)).map (fun(zr:Int)=>(XE.exit 0,frm [(0,.imm 3 (l.map VM)),(5,.i .i64 zr)],[])):=by
 obtain⟨rfl⟩:=H1;rw[QK];simp -dsimp only[↓evA,evB,Qu,Tryz.func278,Tryz.f278,QCj,Qo9,TP,TZ,Nat.reduceAdd,Nat.reduceMul,Nat.reduceBEq,Nat.reduceLeDiff,Nat.reduceLT];apply Ve k i;intro k i;simp -dsimp +contextual only[↓evA,eZ,Nat.reduceAdd,Nat.reduceMul,Nat.reduceBEq,Nat.reduceLeDiff,Nat.reduceLT]
 try simp only[QO,eY]
 all_goals rfl
theorem Qg3(s){R1 l}[H1:EncL VM R1 l]:CP T (n+2) 278 [.imm 3 R1,.i .i64 s]=(Zw l s).map fun r=>.i .i64 r:=by
 obtain⟨rfl⟩:=H1;rw[Qm];simp -dsimp +contextual only[↓evA,eZ,Nat.reduceAdd,Nat.reduceMul,Nat.reduceBEq,Nat.reduceLeDiff,Nat.reduceLT,Tryz.func278,Tryz.f278,QCj,Qo9,Qe8]
 try simp only[Zw,eY]
 all_goals rfl
theorem Qh8(s i){R1 a R2 o}[H1:EncR Qc3 R1 a][H2:EncL VM R2 o]:LP T (n+1) 253 6 (frm [(3,.ptr 0 0 0),(6,.sl 1),(7,.i .i64 s),(8,.i .i64 i)]) [some (Ent.box R1),some (Ent.lst 3 R2)] =
  (run (V9 a s) (o,i)).map (fun(zr:(List Slot))=>(XE.exit 0,frm [(6,.sl 0)],[some (Ent.lst 3 (zr.map VM))])):=by
 rcases H1,H2 with⟨⟨rfl⟩,⟨rfl⟩⟩
 rw[QK];simp -dsimp only[↓evA,evB,Qu,Tryz.func253,Tryz.f253,QCf,QoY,TP,TZ,Nat.reduceAdd,Nat.reduceMul,Nat.reduceBEq,Nat.reduceLeDiff,Nat.reduceLT];apply Ve o i;intro o i;simp -dsimp +contextual only[↓evA,eZ,Nat.reduceAdd,Nat.reduceMul,Nat.reduceBEq,Nat.reduceLeDiff,Nat.reduceLT]
 try simp only[V9,eY]
 all_goals rfl
theorem Qli{R1 l R2 a}[H1:EncL VM R1 l][H2:EncR Qc3 R2 a]:CP T (n+4) 253 [.imm 3 R1,.agg R2]=(QaU l a).map fun r=>.tup [.own 3 (r.1.map VM),.b r.2]:=by
 rcases H1,H2 with⟨⟨rfl⟩,⟨rfl⟩⟩
 rw[Qm];simp -dsimp +contextual only[↓evA,eZ,Nat.reduceAdd,Nat.reduceMul,Nat.reduceBEq,Nat.reduceLeDiff,Nat.reduceLT,Tryz.func253,Tryz.f253,QCf,QoY,Qg3,Qde,QdC,Qbm,Qh8]
 try simp only[QaU,eY]
 all_goals first|rfl|(simp +contextual only[evN]<;>rfl)
theorem Qdx{R1 l R2 a}[H1:EncL J5 R1 l][H2:EncR J5 R2 a]:CP T (n+8) 161 [.imm 5 R1,.agg R2]=(Qal l a).map fun r=>.tup [.own 5 (r.1.map J5),.b r.2]:=by
 rcases H1,H2 with⟨⟨rfl⟩,⟨rfl⟩⟩
 rw[Qm];simp -dsimp +contextual only[↓evA,eZ,Nat.reduceAdd,Nat.reduceMul,Nat.reduceBEq,Nat.reduceLeDiff,Nat.reduceLT,Tryz.func161,Tryz.f161,QIC,QtQ,QfG,QdF]
 try simp only[Qal,eY]
 try simp only[List.contains_nil,Bool.not_false,Bool.and_true,VA,List.length_append,List.length_cons,List.length_nil,Nat.zero_add,VC,VT]
 all_goals first|rfl|(simp +contextual only[evN]<;>rfl)
theorem Zb(oxNo oxNow o2){R1 a R2 oxFinds R3 oxSecrets R4 oxSlots R5 oxClaims R6 oxTrials R7 oxChain R8 oxBook}[H1:EncR Q6 R1 a][H2:EncL QX R2 oxFinds][H3:EncL Xl R3 oxSecrets][H4:EncL VM R4 oxSlots][H5:EncL Vj R5 oxClaims][H6:EncL Jx R6 oxTrials][H7:EncL J5 R7 oxChain][H8:EncL Jd R8 oxBook]:CM T (n+12) 254 [some (Ent.lst 8 R2),some (Ent.lst 3 R3),some (Ent.lst 3 R4),some (Ent.lst 5 R5),some (Ent.lst 4 R6),some (Ent.lst 5 R7),some (Ent.lst 4 R8)] [.agg R1,.agg [.i .i64 oxNo,.sl 0,.sl 1,.sl 2,.sl 3,.sl 4,.sl 5,.sl 6,.i .i64 oxNow],.b o2]=(Qk a (⟨oxNo,oxFinds,oxSecrets,oxSlots,oxClaims,oxTrials,oxChain,oxBook,oxNow⟩:House) o2).map fun r=>.tup [.agg (X8 r.1),.b r.2]:=by
 rcases H1,H2,H3,H4,H5,H6,H7,H8 with⟨⟨rfl⟩,⟨rfl⟩,⟨rfl⟩,⟨rfl⟩,⟨rfl⟩,⟨rfl⟩,⟨rfl⟩,⟨rfl⟩⟩
 rw[QCr];simp -dsimp +contextual (maxSteps:=100000000) only[↓evA,eZ,Nat.reduceAdd,Nat.reduceMul,Nat.reduceBEq,Nat.reduceLeDiff,Nat.reduceLT,Tryz.func254,Tryz.f254,QLz,Qts,ZX,VB]
 try simp only[Qk,eY]
 all_goals rfl
theorem QkA(s){R1 a R2 f R3 m}[H1:EncR Q6 R1 a][H2:EncR QX R2 f][H3:EncL Zd R3 m]:CP T (n+13) 208 [.agg R1,.agg R2,.imm 2 R3,.i .i64 s]=(ZG a f m s).map fun r=>.tup [.agg (X8 r.1),.b r.2]:=by
 rcases H1,H2,H3 with⟨⟨rfl⟩,⟨rfl⟩,⟨rfl⟩⟩
 rw[Qm];simp -dsimp +contextual (maxSteps:=100000000) only[↓evA,eZ,Nat.reduceAdd,Nat.reduceMul,Nat.reduceBEq,Nat.reduceLeDiff,Nat.reduceLT,Tryz.func208,Tryz.f208,QM1,QtP,srt,VB,QlS,Qjt,Qli,Qdx,Zb]
 try simp only[ZG,eY]
 all_goals rfl
theorem Qhw(k b i){R1 l R2 a}[H1:EncL Vj R1 l][H2:EncR Vj R2 a]:LP T (n+1) 255 4 (frm [(0,.imm 5 R1),(3,.ptr 0 0 0),(6,.i .i64 k),(7,.b b),(8,.i .i64 i)]) [some (Ent.box R2)] =
  (run (X0 l a) (k,b,i)).map (fun(zr:Int×Bool)=>(XE.exit 0,frm [(0,.imm 5 (l.map Vj)),(3,.ptr 0 0 0),(6,.i .i64 zr.1),(7,.b zr.2)],[some (Ent.box (Vj a))])):=by
 rcases H1,H2 with⟨⟨rfl⟩,⟨rfl⟩⟩
 rw[QK];simp -dsimp only[↓evA,evB,Qu,Tryz.func255,Tryz.f255,QCc,Qph,TP,TZ,Nat.reduceAdd,Nat.reduceMul,Nat.reduceBEq,Nat.reduceLeDiff,Nat.reduceLT];apply QdQ k b i;intro k b i;simp -dsimp +contextual only[↓evA,eZ,Nat.reduceAdd,Nat.reduceMul,Nat.reduceBEq,Nat.reduceLeDiff,Nat.reduceLT]
 try simp only[X0,eY]
 try simp only[List.contains_nil,Bool.not_false,Bool.and_true,VA,List.length_append,List.length_cons,List.length_nil,Nat.zero_add,VC,VT]
 all_goals rfl
theorem QkQ{R1 l R2 a}[H1:EncL Vj R1 l][H2:EncR Vj R2 a]:CP T (n+4) 255 [.imm 5 R1,.agg R2]=(QaA l a).map fun r=>.tup [.own 5 (r.1.map Vj),.b r.2]:=by
 rcases H1,H2 with⟨⟨rfl⟩,⟨rfl⟩⟩
 rw[Qm];simp -dsimp +contextual only[↓evA,eZ,Nat.reduceAdd,Nat.reduceMul,Nat.reduceBEq,Nat.reduceLeDiff,Nat.reduceLT,Tryz.func255,Tryz.f255,QCc,Qph,QcC,Qhw]
 try simp only[QaA,eY]
 try simp only[List.contains_nil,Bool.not_false,Bool.and_true,VA,List.length_append,List.length_cons,List.length_nil,Nat.zero_add,VC,VT]
 all_goals first|rfl|(simp +contextual only[evN]<;>rfl)
theorem Qg9(i a oxNo oxNow o2 k){R1 a2 R2 oxFinds R3 oxSecrets R4 oxSlots R5 oxClaims R6 oxTrials R7 oxChain R8 oxBook}[H1:EncR Q6 R1 a2][H2:EncL QX R2 oxFinds][H3:EncL Xl R3 oxSecrets][H4:EncL VM R4 oxSlots][H5:EncL Vj R5 oxClaims][H6:EncL Jx R6 oxTrials][H7:EncL J5 R7 oxChain][H8:EncL Jd R8 oxBook]:LP T (n+1) 209 5 (frm [(1,.i .i64 i),(3,.i .i64 a),(4,.ptr 0 0 0),(8,.ptr 1 0 0),(10,.ptr 2 0 0),(12,.b o2),(13,.i .i64 k)]) [some (Ent.box R1),some (Ent.box [.i .i64 0,.nil,.nil,.nil,.nil,.nil,.nil,.nil,.i .i64 0]),some (Ent.box [.i .i64 oxNo,.sl 3,.sl 4,.sl 5,.sl 6,.sl 7,.sl 8,.sl 9,.i .i64 oxNow]),some (Ent.lst 8 R2),some (Ent.lst 3 R3),some (Ent.lst 3 R4),some (Ent.lst 5 R5),some (Ent.lst 4 R6),some (Ent.lst 5 R7),some (Ent.lst 4 R8)] =
  (run (Js i a a2 (⟨oxNo,oxFinds,oxSecrets,oxSlots,oxClaims,oxTrials,oxChain,oxBook,oxNow⟩:House) o2) k).map (fun(zr:Int)=>(XE.exit 0,frm [(1,.i .i64 i),(3,.i .i64 a),(4,.ptr 0 0 0),(8,.ptr 1 0 0),(10,.ptr 2 0 0),(12,.b o2),(13,.i .i64 zr)],[some (Ent.box (Q6 a2)),some (Ent.box [.i .i64 0,.nil,.nil,.nil,.nil,.nil,.nil,.nil,.i .i64 0]),some (Ent.box [.i .i64 oxNo,.sl 3,.sl 4,.sl 5,.sl 6,.sl 7,.sl 8,.sl 9,.i .i64 oxNow]),some (Ent.lst 8 (oxFinds.map QX)),some (Ent.lst 3 (oxSecrets.map Xl)),some (Ent.lst 3 (oxSlots.map VM)),some (Ent.lst 5 (oxClaims.map Vj)),some (Ent.lst 4 (oxTrials.map Jx)),some (Ent.lst 5 (oxChain.map J5)),some (Ent.lst 4 (oxBook.map Jd))])):=by
 rcases H1,H2,H3,H4,H5,H6,H7,H8 with⟨⟨rfl⟩,⟨rfl⟩,⟨rfl⟩,⟨rfl⟩,⟨rfl⟩,⟨rfl⟩,⟨rfl⟩,⟨rfl⟩⟩
 rw[QK];simp -dsimp only[↓evA,evB,Qu,Tryz.func209,Tryz.f209,QBK,QqQ,TP,TZ,Nat.reduceAdd,Nat.reduceMul,Nat.reduceBEq,Nat.reduceLeDiff,Nat.reduceLT];apply QP k;intro k;simp -dsimp +contextual (maxSteps:=100000000) only[↓evA,eZ,Nat.reduceAdd,Nat.reduceMul,Nat.reduceBEq,Nat.reduceLeDiff,Nat.reduceLT,srt]
 try simp only[Js,eY]
 try simp only[List.contains_nil,Bool.not_false,Bool.and_true,VA,List.length_append,List.length_cons,List.length_nil,Nat.zero_add,VC,VT]
 all_goals rfl
theorem QjA(i w a2){R1 a}[H1:EncR Q6 R1 a]:CP T (n+13) 209 [.agg R1,.i .i64 i,.i .i64 w,.i .i64 a2]=(Jf a i w a2).map fun r=>.tup [.agg (X8 r.1),.b r.2]:=by
 obtain⟨rfl⟩:=H1;rw[Qm];simp -dsimp +contextual (maxSteps:=100000000) only[↓evA,eZ,Nat.reduceAdd,Nat.reduceMul,Nat.reduceBEq,Nat.reduceLeDiff,Nat.reduceLT,Tryz.func209,Tryz.f209,QBK,QqQ,srt,VB,QkQ,Qbm,Zb,Qg9]
 try simp only[Jf,eY]
 try simp only[List.contains_nil,Bool.not_false,Bool.and_true,VA,List.length_append,List.length_cons,List.length_nil,Nat.zero_add,VC,VT]
 all_goals rfl
theorem Qg0(i i2){R1 l}[H1:EncL Vj R1 l]:LP T (n+1) 256 2 (frm [(0,.imm 5 R1),(1,.i .i64 i),(5,.i .i64 i2)]) [] =
  Qbe (run (Jl l i) i2) (fun(zr:Int)=>(XE.ret,frm [(4,.i .i64 zr)],[])) (fun(zr:Unit)=>(XE.exit 0,frm [],[])):=by
 obtain⟨rfl⟩:=H1;rw[QK];simp -dsimp only[↓evA,evB,Qu,Tryz.func256,Tryz.f256,QCC,QqS,TP,TZ,Nat.reduceAdd,Nat.reduceMul,Nat.reduceBEq,Nat.reduceLeDiff,Nat.reduceLT];apply QP i2;intro i2;simp -dsimp +contextual only[↓evA,eZ,Nat.reduceAdd,Nat.reduceMul,Nat.reduceBEq,Nat.reduceLeDiff,Nat.reduceLT]
 try simp only[Jl,eY]
 all_goals rfl
theorem QcE(i){R1 l}[H1:EncL Vj R1 l]:CP T (n+2) 256 [.imm 5 R1,.i .i64 i]=(J9 l i).map fun r=>.i .i64 r:=by
 obtain⟨rfl⟩:=H1;rw[Qm];simp -dsimp +contextual only[↓evA,eZ,Nat.reduceAdd,Nat.reduceMul,Nat.reduceBEq,Nat.reduceLeDiff,Nat.reduceLT,Tryz.func256,Tryz.f256,QCC,QqS,Qg0]
 try simp only[J9,eY]
 all_goals rfl
theorem QhK(c a){R1 l}[H1:EncL Zd R1 l]:CP T (n+5) 291 [.imm 2 R1,.i .i64 c,.i .i64 a]=(ZV l c a).map fun r=>.i .i64 r:=by
 obtain⟨rfl⟩:=H1;rw[Qm];simp -dsimp +contextual only[↓evA,eZ,Nat.reduceAdd,Nat.reduceMul,Nat.reduceBEq,Nat.reduceLeDiff,Nat.reduceLT,Tryz.func291,Tryz.f291,QMm,QsD,Qdb,QM,Qgj,Ql3]
 try simp only[ZV,eY]
 all_goals rfl
theorem QgV{R1 l R2 a}[H1:EncL Zd R1 l][H2:EncR Jx R2 a]:CP T (n+6) 279 [.imm 2 R1,.agg R2]=(Zs l a).map fun r=>.i .i64 r:=by
 rcases H1,H2 with⟨⟨rfl⟩,⟨rfl⟩⟩
 rw[Qm];simp -dsimp +contextual only[↓evA,eZ,Nat.reduceAdd,Nat.reduceMul,Nat.reduceBEq,Nat.reduceLeDiff,Nat.reduceLT,Tryz.func279,Tryz.f279,QLi,QtF,Qb5,QhK]
 try simp only[Zs,eY]
 all_goals rfl
theorem QhM(q i){R1 l}[H1:EncL Zd R1 l]:LP T (n+1) 280 2 (frm [(0,.imm 2 R1),(1,.i .i64 q),(5,.i .i64 i)]) [] =
  Qbe (run (J2 l q) i) (fun(zr:Int)=>(XE.ret,frm [(4,.i .i64 zr)],[])) (fun(zr:Unit)=>(XE.exit 0,frm [],[])):=by
 obtain⟨rfl⟩:=H1;rw[QK];simp -dsimp only[↓evA,evB,Qu,Tryz.func280,Tryz.f280,QBE,Qp1,TP,TZ,Nat.reduceAdd,Nat.reduceMul,Nat.reduceBEq,Nat.reduceLeDiff,Nat.reduceLT];apply QP i;intro i;simp -dsimp +contextual only[↓evA,eZ,Nat.reduceAdd,Nat.reduceMul,Nat.reduceBEq,Nat.reduceLeDiff,Nat.reduceLT]
 try simp only[J2,eY]
 all_goals rfl
theorem QkF(q){R1 l}[H1:EncL Zd R1 l]:CP T (n+2) 280 [.imm 2 R1,.i .i64 q]=(Qbj l q).map fun r=>.i .i64 r:=by
 obtain⟨rfl⟩:=H1;rw[Qm];simp -dsimp +contextual only[↓evA,eZ,Nat.reduceAdd,Nat.reduceMul,Nat.reduceBEq,Nat.reduceLeDiff,Nat.reduceLT,Tryz.func280,Tryz.f280,QBE,Qp1,QhM]
 try simp only[Qbj,eY]
 all_goals rfl
theorem QiY(a2){R1 l R2 a}[H1:EncL Zd R1 l][H2:EncR Jx R2 a]:CP T (n+7) 257 [.imm 2 R1,.agg R2,.i .i64 a2]=(Qat l a a2).map fun r=>.tup [.agg (Jx r.1),.b r.2]:=by
 rcases H1,H2 with⟨⟨rfl⟩,⟨rfl⟩⟩
 rw[Qm];simp -dsimp +contextual only[↓evA,eZ,Nat.reduceAdd,Nat.reduceMul,Nat.reduceBEq,Nat.reduceLeDiff,Nat.reduceLT,Tryz.func257,Tryz.f257,QJt,Qt1,QgV,QkF]
 try simp only[Qat,eY]
 all_goals rfl
theorem Qis(c a2){R1 a}[H1:EncR Q6 R1 a]:CP T (n+13) 210 [.agg R1,.i .i64 c,.i .i64 a2]=(JD a c a2).map fun r=>.tup [.agg (X8 r.1),.b r.2]:=by
 obtain⟨rfl⟩:=H1;rw[Qm];simp -dsimp +contextual (maxSteps:=100000000) only[↓evA,eZ,Nat.reduceAdd,Nat.reduceMul,Nat.reduceBEq,Nat.reduceLeDiff,Nat.reduceLT,Tryz.func210,Tryz.f210,QNc,Qta,srt,VB,QcE,ZX,Qga,QiY,Qb5,Zb]
 try simp only[JD,eY]
 all_goals rfl
theorem QfP(a k i){R1 l}[H1:EncL Vj R1 l]:LP T (n+1) 258 3 (frm [(0,.imm 5 R1),(1,.i .i64 a),(5,.i .i64 k),(6,.i .i64 i)]) [] =
  (run (QZ l a) (k,i)).map (fun(zr:Int)=>(XE.exit 0,frm [(0,.imm 5 (l.map Vj)),(5,.i .i64 zr)],[])):=by
 obtain⟨rfl⟩:=H1;rw[QK];simp -dsimp only[↓evA,evB,Qu,Tryz.func258,Tryz.f258,QCm,QpG,TP,TZ,Nat.reduceAdd,Nat.reduceMul,Nat.reduceBEq,Nat.reduceLeDiff,Nat.reduceLT];apply Ve k i;intro k i;simp -dsimp +contextual only[↓evA,eZ,Nat.reduceAdd,Nat.reduceMul,Nat.reduceBEq,Nat.reduceLeDiff,Nat.reduceLT]
 try simp only[QZ,eY]
 all_goals rfl
theorem QdE(a){R1 l}[H1:EncL Vj R1 l]:CP T (n+2) 258 [.imm 5 R1,.i .i64 a]=(X4 l a).map fun r=>.i .i64 r:=by
 obtain⟨rfl⟩:=H1;rw[Qm];simp -dsimp +contextual only[↓evA,eZ,Nat.reduceAdd,Nat.reduceMul,Nat.reduceBEq,Nat.reduceLeDiff,Nat.reduceLT,Tryz.func258,Tryz.f258,QCm,QpG,QfP]
 try simp only[X4,eY]
 all_goals rfl
theorem Qio(s i){R1 o}[H1:EncL VM R1 o]:LP T (n+1) 162 6 (frm [(6,.sl 0),(7,.i .i64 s),(8,.i .i64 i)]) [some (Ent.lst 3 R1)] =
  (run (V8 s) (o,i)).map (fun(zr:(List Slot))=>(XE.exit 0,frm [(6,.sl 0)],[some (Ent.lst 3 (zr.map VM))])):=by
 obtain⟨rfl⟩:=H1;rw[QK];simp -dsimp only[↓evA,evB,Qu,Tryz.func162,Tryz.f162,QB9,QqJ,TP,TZ,Nat.reduceAdd,Nat.reduceMul,Nat.reduceBEq,Nat.reduceLeDiff,Nat.reduceLT];apply Ve o i;intro o i;simp -dsimp +contextual only[↓evA,eZ,Nat.reduceAdd,Nat.reduceMul,Nat.reduceBEq,Nat.reduceLeDiff,Nat.reduceLT]
 try simp only[V8,eY]
 all_goals rfl
theorem Qf8(a){R1 l}[H1:EncL VM R1 l]:CP T (n+4) 162 [.imm 3 R1,.i .i64 a]=(Qaf l a).map fun r=>.tup [.own 3 (r.1.map VM),.b r.2]:=by
 obtain⟨rfl⟩:=H1;rw[Qm];simp -dsimp +contextual only[↓evA,eZ,Nat.reduceAdd,Nat.reduceMul,Nat.reduceBEq,Nat.reduceLeDiff,Nat.reduceLT,Tryz.func162,Tryz.f162,QB9,QqJ,Qbm,Qde,Qio]
 try simp only[Qaf,eY]
 all_goals first|rfl|(simp +contextual only[evN]<;>rfl)
theorem QeD(a2 a3 w){R1 a}[H1:EncR Q6 R1 a]:CP T (n+9) 259 [.agg R1,.i .i64 a2,.i .i64 a3,.i .i64 w]=(Zy a a2 a3 w).map fun r=>.tup [.agg (X8 r.1),.b r.2]:=by
 obtain⟨rfl⟩:=H1;rw[Qm];simp -dsimp +contextual (maxSteps:=100000000) only[↓evA,eZ,Nat.reduceAdd,Nat.reduceMul,Nat.reduceBEq,Nat.reduceLeDiff,Nat.reduceLT,Tryz.func259,Tryz.f259,QHI,Qti,VB,Qf8,Qdx]
 try simp only[Zy,eY]
 all_goals rfl
theorem QkO(i s){R1 l}[H1:EncL Vj R1 l]:CP T (n+4) 260 [.imm 5 R1,.i .i64 i,.i .i64 s]=(Qbk l i s).map fun r=>.tup [.own 5 (r.1.map Vj),.b r.2]:=by
 obtain⟨rfl⟩:=H1;rw[Qm];simp -dsimp +contextual only[↓evA,eZ,Nat.reduceAdd,Nat.reduceMul,Nat.reduceBEq,Nat.reduceLeDiff,Nat.reduceLT,Tryz.func260,Tryz.f260,QGT,Qs8,QcE,QcC]
 try simp only[Qbk,eY]
 all_goals first|rfl|(simp +contextual only[evN]<;>rfl)
theorem QmL(d){R1 a}[H1:EncR Qc3 R1 a]:CP T (n+3) 262 [.agg R1,.i .i64 d]=(QcS a d).map fun r=>.i .i64 r:=by
 obtain⟨rfl⟩:=H1;rw[Qm];simp -dsimp +contextual only[↓evA,eZ,Nat.reduceAdd,Nat.reduceMul,Nat.reduceBEq,Nat.reduceLeDiff,Nat.reduceLT,Tryz.func262,Tryz.f262,QNS,Qs6,QdC,QM,J4]
 try simp only[QcS,eY]
 all_goals rfl
theorem Qfz{R1 l R2 a}[H1:EncL Jd R1 l][H2:EncR Jd R2 a]:CP T (n+4) 163 [.imm 4 R1,.agg R2]=(ZI l a).map fun r=>.tup [.own 4 (r.1.map Jd),.b r.2]:=by
 rcases H1,H2 with⟨⟨rfl⟩,⟨rfl⟩⟩
 rw[Qm];simp -dsimp +contextual only[↓evA,eZ,Nat.reduceAdd,Nat.reduceMul,Nat.reduceBEq,Nat.reduceLeDiff,Nat.reduceLT,Tryz.func163,Tryz.f163,QJf,Qs3,Qeb]
 try simp only[ZI,eY]
 try simp only[List.contains_nil,Bool.not_false,Bool.and_true,VA,List.length_append,List.length_cons,List.length_nil,Nat.zero_add,VC,VT]
 all_goals first|rfl|(simp +contextual only[evN]<;>rfl)
theorem Qhh(axNo axNow f a2 c){R1 axFinds R2 axSecrets R3 axSlots R4 axClaims R5 axTrials R6 axChain R7 axBook}[H1:EncL QX R1 axFinds][H2:EncL Xl R2 axSecrets][H3:EncL VM R3 axSlots][H4:EncL Vj R4 axClaims][H5:EncL Jx R5 axTrials][H6:EncL J5 R6 axChain][H7:EncL Jd R7 axBook]:CM T (n+5) 261 [some (Ent.lst 8 R1),some (Ent.lst 3 R2),some (Ent.lst 3 R3),some (Ent.lst 5 R4),some (Ent.lst 4 R5),some (Ent.lst 5 R6),some (Ent.lst 4 R7)] [.agg [.i .i64 axNo,.sl 0,.sl 1,.sl 2,.sl 3,.sl 4,.sl 5,.sl 6,.i .i64 axNow],.i .i64 f,.i .i64 a2,.i .i64 c]=(ZB (⟨axNo,axFinds,axSecrets,axSlots,axClaims,axTrials,axChain,axBook,axNow⟩:House) f a2 c).map fun r=>.tup [.agg (X8 r.1),.b r.2]:=by
 rcases H1,H2,H3,H4,H5,H6,H7 with⟨⟨rfl⟩,⟨rfl⟩,⟨rfl⟩,⟨rfl⟩,⟨rfl⟩,⟨rfl⟩,⟨rfl⟩⟩
 rw[QCr];simp -dsimp +contextual (maxSteps:=100000000) only[↓evA,eZ,Nat.reduceAdd,Nat.reduceMul,Nat.reduceBEq,Nat.reduceLeDiff,Nat.reduceLT,Tryz.func261,Tryz.f261,QJ4,QtX,Qfz]
 try simp only[ZB,eY]
 all_goals rfl
theorem Qj4(a2){R1 a}[H1:EncR Q6 R1 a]:CP T (n+13) 211 [.agg R1,.i .i64 a2]=(Zc a a2).map fun r=>.tup [.agg (X8 r.1),.b r.2]:=by
 obtain⟨rfl⟩:=H1;rw[Qm];simp -dsimp +contextual (maxSteps:=100000000) only[↓evA,eZ,Nat.reduceAdd,Nat.reduceMul,Nat.reduceBEq,Nat.reduceLeDiff,Nat.reduceLT,Tryz.func211,Tryz.f211,QNB,QsJ,srt,QdE,JX,ZX,VB,QcE,QeD,QkO,QmL,Qhh,Zb]
 try simp only[Zc,eY]
 try simp only[List.contains_nil,Bool.not_false,Bool.and_true,VA,List.length_append,List.length_cons,List.length_nil,Nat.zero_add,VC,VT]
 all_goals rfl
theorem QiJ(i k){R1 l}[H1:EncL Qbp R1 l]:LP T (n+1) 281 7 (frm [(0,.imm 3 R1),(3,.i .i64 i),(4,.i .i64 k)]) [] =
  Qbe (run (JC l i) k) (fun(zr:Bool)=>(XE.ret,frm [(2,.b zr)],[])) (fun(zr:Unit)=>(XE.exit 2,frm [(0,.imm 3 (l.map Qbp)),(3,.i .i64 i)],[])):=by
 obtain⟨rfl⟩:=H1;rw[QK];simp -dsimp only[↓evA,evB,Qu,Tryz.func281,Tryz.f281,Qv5,Qnl,TP,TZ,Nat.reduceAdd,Nat.reduceMul,Nat.reduceBEq,Nat.reduceLeDiff,Nat.reduceLT];apply QP k;intro k;simp -dsimp +contextual only[↓evA,eZ,Nat.reduceAdd,Nat.reduceMul,Nat.reduceBEq,Nat.reduceLeDiff,Nat.reduceLT]
 try simp only[JC,eY]
 all_goals rfl
theorem QiM(i){R1 l}[H1:EncL Qbp R1 l]:LP T (n+2) 281 2 (frm [(0,.imm 3 R1),(3,.i .i64 i)]) [] =
  Qbe (run (Jz l) i) (fun(zr:Bool)=>(XE.ret,frm [(2,.b zr)],[])) (fun(zr:Unit)=>(XE.exit 0,frm [(0,.imm 3 (l.map Qbp))],[])):=by
 obtain⟨rfl⟩:=H1;rw[QK];simp -dsimp only[↓evA,evB,Qu,Tryz.func281,Tryz.f281,Qv5,Qnl,TP,TZ,Nat.reduceAdd,Nat.reduceMul,Nat.reduceBEq,Nat.reduceLeDiff,Nat.reduceLT];apply QP i;intro i;simp -dsimp +contextual only[↓evA,eZ,Nat.reduceAdd,Nat.reduceMul,Nat.reduceBEq,Nat.reduceLeDiff,Nat.reduceLT,QM,QiJ]
 try simp only[Jz,eY]
 all_goals rfl
theorem Qly{R1 l}[H1:EncL Qbp R1 l]:CP T (n+3) 281 [.imm 3 R1]=(Qds l).map fun r=>.b r:=by
 obtain⟨rfl⟩:=H1;rw[Qm];simp -dsimp +contextual only[↓evA,eZ,Nat.reduceAdd,Nat.reduceMul,Nat.reduceBEq,Nat.reduceLeDiff,Nat.reduceLT,Tryz.func281,Tryz.f281,Qv5,Qnl,QiM]
 try simp only[Qds,eY]
 all_goals rfl
theorem QgT(i k){R1 l R2 o}[H1:EncL Qbp R1 l][H2:EncL Qbp R2 o]:LP T (n+1) 282 6 (frm [(0,.imm 3 R1),(3,.sl 0),(4,.i .i64 i),(5,.i .i64 k)]) [some (Ent.lst 3 R2)] =
  (run (Ju l o i) k).map (fun(zr:Int)=>(XE.exit 2,frm [(0,.imm 3 (l.map Qbp)),(3,.sl 0),(4,.i .i64 i),(5,.i .i64 zr)],[some (Ent.lst 3 (o.map Qbp))])):=by
 rcases H1,H2 with⟨⟨rfl⟩,⟨rfl⟩⟩
 rw[QK];simp -dsimp only[↓evA,evB,Qu,Tryz.func282,Tryz.f282,Qvz,QnH,TP,TZ,Nat.reduceAdd,Nat.reduceMul,Nat.reduceBEq,Nat.reduceLeDiff,Nat.reduceLT];apply QP k;intro k;simp -dsimp +contextual only[↓evA,eZ,Nat.reduceAdd,Nat.reduceMul,Nat.reduceBEq,Nat.reduceLeDiff,Nat.reduceLT]
 try simp only[Ju,eY]
 try simp only[List.contains_nil,Bool.not_false,Bool.and_true,VA,List.length_append,List.length_cons,List.length_nil,Nat.zero_add,VC,VT]
 all_goals rfl
theorem QgW(i){R1 l R2 o}[H1:EncL Qbp R1 l][H2:EncL Qbp R2 o]:LP T (n+2) 282 3 (frm [(0,.imm 3 R1),(3,.sl 0),(4,.i .i64 i)]) [some (Ent.lst 3 R2)] =
  (run (Xu l) (o,i)).map (fun(zr:(List Bid))=>(XE.exit 0,frm [(3,.sl 0)],[some (Ent.lst 3 (zr.map Qbp))])):=by
 rcases H1,H2 with⟨⟨rfl⟩,⟨rfl⟩⟩
 rw[QK];simp -dsimp only[↓evA,evB,Qu,Tryz.func282,Tryz.f282,Qvz,QnH,TP,TZ,Nat.reduceAdd,Nat.reduceMul,Nat.reduceBEq,Nat.reduceLeDiff,Nat.reduceLT];apply Ve o i;intro o i;simp -dsimp +contextual only[↓evA,eZ,Nat.reduceAdd,Nat.reduceMul,Nat.reduceBEq,Nat.reduceLeDiff,Nat.reduceLT,QgT]
 try simp only[Xu,eY]
 try simp only[List.contains_nil,Bool.not_false,Bool.and_true,VA,List.length_append,List.length_cons,List.length_nil,Nat.zero_add,VC,VT]
 all_goals rfl
theorem Qjm{R1 l}[H1:EncL Qbp R1 l]:CP T (n+3) 282 [.imm 3 R1]=(QaQ l).map fun r=>.own 3 (r.map Qbp):=by
 obtain⟨rfl⟩:=H1;rw[Qm];simp -dsimp +contextual only[↓evA,eZ,Nat.reduceAdd,Nat.reduceMul,Nat.reduceBEq,Nat.reduceLeDiff,Nat.reduceLT,Tryz.func282,Tryz.f282,Qvz,QnH,QgW]
 try simp only[QaQ,eY]
 try simp only[List.contains_nil,Bool.not_false,Bool.and_true,VA,List.length_append,List.length_cons,List.length_nil,Nat.zero_add,VC,VT]
 all_goals first|rfl|(simp +contextual only[evN]<;>rfl)
theorem QmF{R1 l}[H1:EncL Qbp R1 l]:CP T (n+4) 263 [.imm 3 R1]=(QcU l).map fun r=>.tup [.i .i64 r.1,.i .i64 r.2]:=by
 obtain⟨rfl⟩:=H1;rw[Qm];simp -dsimp +contextual only[↓evA,eZ,Nat.reduceAdd,Nat.reduceMul,Nat.reduceBEq,Nat.reduceLeDiff,Nat.reduceLT,Tryz.func263,Tryz.f263,QNI,QsU,Qly,Qjm]
 try simp only[QcU,eY]
 all_goals rfl
theorem QkG(k):CP T (n+2) 296 [.i .i64 k]=(QcO k).map fun r=>.i .i64 r:=by
 rw[Qm];simp -dsimp +contextual only[↓evA,eZ,Nat.reduceAdd,Nat.reduceMul,Nat.reduceBEq,Nat.reduceLeDiff,Nat.reduceLT,Tryz.func296,Tryz.f296,QNy,QsH,QM]
 try simp only[QcO,eY]
 all_goals rfl
theorem QmB{R1 f}[H1:EncR QX R1 f]:CP T (n+4) 292 [.agg R1]=(Qdk f).map fun r=>.i .i64 r:=by
 obtain⟨rfl⟩:=H1;rw[Qm];simp -dsimp +contextual only[↓evA,eZ,Nat.reduceAdd,Nat.reduceMul,Nat.reduceBEq,Nat.reduceLeDiff,Nat.reduceLT,Tryz.func292,Tryz.f292,QG4,Qso,QcM,QkG]
 try simp only[Qdk,eY]
 all_goals rfl
theorem Qov(a){R1 f}[H1:EncR QX R1 f]:CP T (n+5) 283 [.agg R1,.i .i64 a]=(QdS f a).map fun r=>.b r:=by
 obtain⟨rfl⟩:=H1;rw[Qm];simp -dsimp +contextual only[↓evA,eZ,Nat.reduceAdd,Nat.reduceMul,Nat.reduceBEq,Nat.reduceLeDiff,Nat.reduceLT,Tryz.func283,Tryz.f283,QKm,Qsg,QcM,QmB]
 try simp only[QdS,eY]
 all_goals rfl
theorem Qjr(a i){R1 l R2 f}[H1:EncL Vj R1 l][H2:EncR QX R2 f]:LP T (n+1) 264 4 (frm [(1,.imm 5 R1),(2,.i .i64 a),(3,.ptr 0 0 0),(7,.i .i64 i)]) [some (Ent.box R2)] =
  Qbe (run (Z6 l a f) i) (fun(zr:Int)=>(XE.ret,frm [(6,.i .i64 zr)],[])) (fun(zr:Unit)=>(XE.exit 0,frm [(2,.i .i64 a),(3,.ptr 0 0 0)],[some (Ent.box (QX f))])):=by
 rcases H1,H2 with⟨⟨rfl⟩,⟨rfl⟩⟩
 rw[QK];simp -dsimp only[↓evA,evB,Qu,Tryz.func264,Tryz.f264,QCy,Qqf,TP,TZ,Nat.reduceAdd,Nat.reduceMul,Nat.reduceBEq,Nat.reduceLeDiff,Nat.reduceLT];apply QP i;intro i;simp -dsimp +contextual only[↓evA,eZ,Nat.reduceAdd,Nat.reduceMul,Nat.reduceBEq,Nat.reduceLeDiff,Nat.reduceLT]
 try simp only[Z6,eY]
 all_goals rfl
theorem Qhi(a){R1 f R2 l}[H1:EncR QX R1 f][H2:EncL Vj R2 l]:CP T (n+6) 264 [.agg R1,.imm 5 R2,.i .i64 a]=(QbU f l a).map fun r=>.i .i64 r:=by
 rcases H1,H2 with⟨⟨rfl⟩,⟨rfl⟩⟩
 rw[Qm];simp -dsimp +contextual only[↓evA,eZ,Nat.reduceAdd,Nat.reduceMul,Nat.reduceBEq,Nat.reduceLeDiff,Nat.reduceLT,Tryz.func264,Tryz.f264,QCy,Qqf,QdE,Qov,Qjr]
 try simp only[QbU,eY]
 all_goals rfl
theorem QfY(c s i){R1 p R2 o}[H1:EncL Qj R1 p][H2:EncL Qj R2 o]:LP T (n+2) 284 4 (frm [(0,.i .i64 c),(1,.imm 1 R1),(5,.sl 0),(6,.i .i64 s),(7,.i .i64 i)]) [some (Ent.lst 1 R2)] =
  Qbe (run (X2 c p o) (s,i)) (fun(zr:(List Int))=>(XE.ret,frm [(4,.sl 0)],[some (Ent.lst 1 (zr.map Qj))])) (fun(zr:Int)=>(XE.exit 0,frm [(0,.i .i64 c),(1,.imm 1 (p.map Qj)),(5,.sl 0),(6,.i .i64 zr)],[some (Ent.lst 1 (o.map Qj))])):=by
 rcases H1,H2 with⟨⟨rfl⟩,⟨rfl⟩⟩
 rw[QK];simp -dsimp only[↓evA,evB,Qu,Tryz.func284,Tryz.f284,QsN,Ql0,TP,TZ,Nat.reduceAdd,Nat.reduceMul,Nat.reduceBEq,Nat.reduceLeDiff,Nat.reduceLT];apply Ve s i;intro s i;simp -dsimp +contextual only[↓evA,eZ,Nat.reduceAdd,Nat.reduceMul,Nat.reduceBEq,Nat.reduceLeDiff,Nat.reduceLT,QM]
 try simp only[X2,eY]
 all_goals rfl
theorem QfR(c s l i){R1 p R2 o}[H1:EncL Qj R1 p][H2:EncL Qj R2 o]:LP T (n+1) 284 13 (frm [(0,.i .i64 c),(1,.imm 1 R1),(5,.sl 0),(6,.i .i64 s),(8,.i .i64 l),(9,.i .i64 i)]) [some (Ent.lst 1 R2)] =
  (run (VX c p s) (o,l,i)).map (fun(zr:(List Int)×Int)=>(XE.exit 2,frm [(5,.sl 0),(8,.i .i64 zr.2)],[some (Ent.lst 1 (zr.1.map Qj))])):=by
 rcases H1,H2 with⟨⟨rfl⟩,⟨rfl⟩⟩
 rw[QK];simp -dsimp only[↓evA,evB,Qu,Tryz.func284,Tryz.f284,QsN,Ql0,TP,TZ,Nat.reduceAdd,Nat.reduceMul,Nat.reduceBEq,Nat.reduceLeDiff,Nat.reduceLT];apply QdQ o l i;intro o l i;simp -dsimp +contextual only[↓evA,eZ,Nat.reduceAdd,Nat.reduceMul,Nat.reduceBEq,Nat.reduceLeDiff,Nat.reduceLT]
 try simp only[VX,eY]
 all_goals rfl
theorem QfU(l i){R1 o}[H1:EncL Qj R1 o]:LP T (n+1) 284 18 (frm [(5,.sl 0),(8,.i .i64 l),(10,.i .i64 i)]) [some (Ent.lst 1 R1)] =
  (run (XI l) (o,i)).map (fun(zr:(List Int))=>(XE.exit 4,frm [(5,.sl 0)],[some (Ent.lst 1 (zr.map Qj))])):=by
 obtain⟨rfl⟩:=H1;rw[QK];simp -dsimp only[↓evA,evB,Qu,Tryz.func284,Tryz.f284,QsN,Ql0,TP,TZ,Nat.reduceAdd,Nat.reduceMul,Nat.reduceBEq,Nat.reduceLeDiff,Nat.reduceLT];apply Ve o i;intro o i;simp -dsimp +contextual only[↓evA,eZ,Nat.reduceAdd,Nat.reduceMul,Nat.reduceBEq,Nat.reduceLeDiff,Nat.reduceLT]
 try simp only[XI,eY]
 all_goals rfl
theorem Qh6(c){R1 p}[H1:EncL Qj R1 p]:CP T (n+3) 284 [.i .i64 c,.imm 1 R1]=(Qan c p).map fun r=>.own 1 (r.map Qj):=by
 obtain⟨rfl⟩:=H1;rw[Qm];simp -dsimp +contextual only[↓evA,eZ,Nat.reduceAdd,Nat.reduceMul,Nat.reduceBEq,Nat.reduceLeDiff,Nat.reduceLT,Tryz.func284,Tryz.f284,QsN,Ql0,QM,QfY,QfR,QfU]
 try simp only[Qan,eY]
 all_goals first|rfl|(simp +contextual only[evN]<;>rfl)
theorem QlY(p f):CP T (n+4) 265 [.i .i64 p,.i .i64 f]=(Qa4 p f).map fun r=>.own 2 (r.map Qjs):=by
 rw[Qm];simp -dsimp +contextual only[↓evA,eZ,Nat.reduceAdd,Nat.reduceMul,Nat.reduceBEq,Nat.reduceLeDiff,Nat.reduceLT,Tryz.func265,Tryz.f265,QG7,QsY,QM,Qh6]
 try simp only[Qa4,eY]
 all_goals first|rfl|(simp +contextual only[evN]<;>rfl)
theorem Qkp(a2){R1 a R2 b}[H1:EncR Q6 R1 a][H2:EncL Qbp R2 b]:CP T (n+13) 212 [.agg R1,.i .i64 a2,.imm 3 R2]=(ZM a a2 b).map fun r=>.tup [.agg (X8 r.1),.b r.2]:=by
 rcases H1,H2 with⟨⟨rfl⟩,⟨rfl⟩⟩
 rw[Qm];simp -dsimp +contextual (maxSteps:=100000000) only[↓evA,eZ,Nat.reduceAdd,Nat.reduceMul,Nat.reduceBEq,Nat.reduceLeDiff,Nat.reduceLT,Tryz.func212,Tryz.f212,QGZ,Qtd,srt,JX,QmF,ZX,Qhi,VB,QeD,Qhh,QlY,Zb]
 try simp only[ZM,eY]
 try simp only[List.contains_nil,Bool.not_false,Bool.and_true,VA,List.length_append,List.length_cons,List.length_nil,Nat.zero_add,VC,VT]
 all_goals rfl
theorem Qjq(a2){R1 a}[H1:EncR Q6 R1 a]:CP T (n+13) 213 [.agg R1,.i .i64 a2]=(J7 a a2).map fun r=>.tup [.agg (X8 r.1),.b r.2]:=by
 obtain⟨rfl⟩:=H1;rw[Qm];simp -dsimp +contextual (maxSteps:=100000000) only[↓evA,eZ,Nat.reduceAdd,Nat.reduceMul,Nat.reduceBEq,Nat.reduceLeDiff,Nat.reduceLT,Tryz.func213,Tryz.f213,QKB,QsV,srt,JX,ZX,VB,Qhi,QeD,Zb]
 try simp only[J7,eY]
 try simp only[List.contains_nil,Bool.not_false,Bool.and_true,VA,List.length_append,List.length_cons,List.length_nil,Nat.zero_add,VC,VT]
 all_goals rfl
theorem Qky(a2){R1 a}[H1:EncR Q6 R1 a]:CP T (n+13) 214 [.agg R1,.i .i64 a2]=(ZL a a2).map fun r=>.tup [.agg (X8 r.1),.b r.2]:=by
 obtain⟨rfl⟩:=H1;rw[Qm];simp -dsimp +contextual (maxSteps:=100000000) only[↓evA,eZ,Nat.reduceAdd,Nat.reduceMul,Nat.reduceBEq,Nat.reduceLeDiff,Nat.reduceLT,Tryz.func214,Tryz.f214,QLH,QtI,srt,VB,QM,Zb]
 try simp only[ZL,eY]
 all_goals rfl
theorem Qic{R1 a R2 e}[H1:EncR Q6 R1 a][H2:EncR QhR R2 e]:CP T (n+14) 151 [.agg R1,.agg R2]=(XN a e).map fun r=>.tup [.agg (X8 r.1),.b r.2]:=by
 rcases H1,H2 with⟨⟨rfl⟩,⟨rfl⟩⟩
 rw[Qm];simp -dsimp +contextual (maxSteps:=100000000) only[↓evA,eZ,Nat.reduceAdd,Nat.reduceMul,Nat.reduceBEq,Nat.reduceLeDiff,Nat.reduceLT,Tryz.func151,Tryz.f151,QLU,Qtp,QkA,QjA,Qis,Qj4,Qkp,Qjq,Qky,VB]
 try simp only[XN,eY]
 all_goals rfl
theorem Qg5(oxNo oxNow i){R1 l R2 oxFinds R3 oxSecrets R4 oxSlots R5 oxClaims R6 oxTrials R7 oxChain R8 oxBook}[H1:EncL QhR R1 l][H2:EncL QX R2 oxFinds][H3:EncL Xl R3 oxSecrets][H4:EncL VM R4 oxSlots][H5:EncL Vj R5 oxClaims][H6:EncL Jx R6 oxTrials][H7:EncL J5 R7 oxChain][H8:EncL Jd R8 oxBook]:LP T (n+15) 78 3 (frm [(1,.imm 14 R1),(4,.ptr 0 0 0),(5,.ptr 1 0 0),(6,.i .i64 i)]) [some (Ent.box [.i .i64 0,.nil,.nil,.nil,.nil,.nil,.nil,.nil,.i .i64 0]),some (Ent.box [.i .i64 oxNo,.sl 2,.sl 3,.sl 4,.sl 5,.sl 6,.sl 7,.sl 8,.i .i64 oxNow]),some (Ent.lst 8 R2),some (Ent.lst 3 R3),some (Ent.lst 3 R4),some (Ent.lst 5 R5),some (Ent.lst 4 R6),some (Ent.lst 5 R7),some (Ent.lst 4 R8)] =
  (run (VY l) ((⟨oxNo,oxFinds,oxSecrets,oxSlots,oxClaims,oxTrials,oxChain,oxBook,oxNow⟩:House),i)).map (fun(zr:House)=>(XE.exit 0,frm [(4,.ptr 0 0 0),(5,.ptr 1 0 0)],[some (Ent.box [.i .i64 0,.nil,.nil,.nil,.nil,.nil,.nil,.nil,.i .i64 0]),some (Ent.box [.i .i64 zr.No,.sl 2,.sl 3,.sl 4,.sl 5,.sl 6,.sl 7,.sl 8,.i .i64 zr.Now]),some (Ent.lst 8 (zr.Finds.map QX)),some (Ent.lst 3 (zr.Secrets.map Xl)),some (Ent.lst 3 (zr.Slots.map VM)),some (Ent.lst 5 (zr.Claims.map Vj)),some (Ent.lst 4 (zr.Trials.map Jx)),some (Ent.lst 5 (zr.Chain.map J5)),some (Ent.lst 4 (zr.Book.map Jd))])):=by
 rcases H1,H2,H3,H4,H5,H6,H7,H8 with⟨⟨rfl⟩,⟨rfl⟩,⟨rfl⟩,⟨rfl⟩,⟨rfl⟩,⟨rfl⟩,⟨rfl⟩,⟨rfl⟩⟩
 rw[QK];simp -dsimp only[↓evA,evB,Qu,Tryz.func78,Tryz.f78,QI8,QwF,TP,TZ,Nat.reduceAdd,Nat.reduceMul,Nat.reduceBEq,Nat.reduceLeDiff,Nat.reduceLT];refine run_map (fun(zs:House×Int)=>(frm [(1,.imm 14 (l.map QhR)),(4,.ptr 0 0 0),(5,.ptr 1 0 0),(6,.i .i64 zs.2)],[some (Ent.box [.i .i64 0,.nil,.nil,.nil,.nil,.nil,.nil,.nil,.i .i64 0]),some (Ent.box [.i .i64 zs.1.No,.sl 2,.sl 3,.sl 4,.sl 5,.sl 6,.sl 7,.sl 8,.i .i64 zs.1.Now]),some (Ent.lst 8 (zs.1.Finds.map QX)),some (Ent.lst 3 (zs.1.Secrets.map Xl)),some (Ent.lst 3 (zs.1.Slots.map VM)),some (Ent.lst 5 (zs.1.Claims.map Vj)),some (Ent.lst 4 (zs.1.Trials.map Jx)),some (Ent.lst 5 (zs.1.Chain.map J5)),some (Ent.lst 4 (zs.1.Book.map Jd))])) _ ?_ ((⟨oxNo,oxFinds,oxSecrets,oxSlots,oxClaims,oxTrials,oxChain,oxBook,oxNow⟩:House),i)
 rintro⟨o,i⟩;simp -dsimp +contextual (maxSteps:=100000000) only[↓evA,eZ,Nat.reduceAdd,Nat.reduceMul,Nat.reduceBEq,Nat.reduceLeDiff,Nat.reduceLT,Qic]
 try simp only[VY,eY]
 all_goals rfl
theorem QeR{R1 a R2 l}[H1:EncR Q6 R1 a][H2:EncL QhR R2 l]:CP T (n+16) 78 [.agg R1,.imm 14 R2]=(Z4 a l).map fun r=>.agg (X8 r):=by
 rcases H1,H2 with⟨⟨rfl⟩,⟨rfl⟩⟩
 rw[Qm];simp -dsimp +contextual (maxSteps:=100000000) only[↓evA,eZ,Nat.reduceAdd,Nat.reduceMul,Nat.reduceBEq,Nat.reduceLeDiff,Nat.reduceLT,Tryz.func78,Tryz.f78,QI8,QwF,VB,Qg5]
 try simp only[Z4,eY]
 all_goals rfl
theorem VQ(a){R1 c}[H1:EncR Qw R1 c]:CA T (n+3) 80 [some (Ent.box R1)] [.ptr 0 0 0,.i .i64 a]=(XS c a).map fun r=>(.b r.2,[some (Ent.box (Qw r.1))]):=by
 obtain⟨rfl⟩:=H1;rw[QaJ];simp -dsimp +contextual (maxSteps:=100000000) only[↓evA,eZ,Nat.reduceAdd,Nat.reduceMul,Nat.reduceBEq,Nat.reduceLeDiff,Nat.reduceLT,Tryz.func80,Tryz.f80,QPC,QA8,srt,Qo]
 try simp only[XS,eY]
 all_goals rfl
theorem Qj2(a r i){R1 c R2 o}[H1:EncR Qw R1 c][H2:EncL Qj R2 o]:LP T (n+4) 215 3 (frm [(0,.ptr 0 0 0),(2,.i .i64 a),(3,.i .i64 r),(9,.sl 1),(10,.i .i64 i)]) [some (Ent.box R1),some (Ent.lst 1 R2)] =
  (run (ZR a r) (c,o,i)).map (fun(zr:l1Cur×(List Int))=>(XE.exit 0,frm [(0,.ptr 0 0 0),(9,.sl 1)],[some (Ent.box (Qw zr.1)),some (Ent.lst 1 (zr.2.map Qj))])):=by
 rcases H1,H2 with⟨⟨rfl⟩,⟨rfl⟩⟩
 rw[QK];simp -dsimp only[↓evA,evB,Qu,Tryz.func215,Tryz.f215,QCG,Qqe,TP,TZ,Nat.reduceAdd,Nat.reduceMul,Nat.reduceBEq,Nat.reduceLeDiff,Nat.reduceLT];apply QdQ c o i;intro c o i;simp -dsimp +contextual only[↓evA,eZ,Nat.reduceAdd,Nat.reduceMul,Nat.reduceBEq,Nat.reduceLeDiff,Nat.reduceLT,srt,VQ]
 try simp only[ZR,eY]
 all_goals rfl
theorem QmV(l a r){R1 c}[H1:EncR Qw R1 c]:CA T (n+5) 215 [some (Ent.box R1)] [.ptr 0 0 0,.i .i64 l,.i .i64 a,.i .i64 r]=(QbR c l a r).map fun r=>(.sl 1,[some (Ent.box (Qw r.1)),some (Ent.lst 1 (r.2.map Qj))]):=by
 obtain⟨rfl⟩:=H1;rw[QaJ];simp -dsimp +contextual (maxSteps:=100000000) only[↓evA,eZ,Nat.reduceAdd,Nat.reduceMul,Nat.reduceBEq,Nat.reduceLeDiff,Nat.reduceLT,Tryz.func215,Tryz.f215,QCG,Qqe,srt,Qj2]
 try simp only[QbR,eY]
 all_goals rfl
theorem Qhd{R1 c}[H1:EncR Qw R1 c]:CA T (n+3) 216 [some (Ent.box R1)] [.ptr 0 0 0]=(QbY c).map fun r=>(.agg (Qiq r.2),[some (Ent.box (Qw r.1))]):=by
 obtain⟨rfl⟩:=H1;rw[QaJ];simp -dsimp +contextual (maxSteps:=100000000) only[↓evA,eZ,Nat.reduceAdd,Nat.reduceMul,Nat.reduceBEq,Nat.reduceLeDiff,Nat.reduceLT,Tryz.func216,Tryz.f216,QI3,Qsn,srt,Qo]
 try simp only[QbY,eY]
 all_goals rfl
theorem Xs(i){R1 c}[H1:EncR Qw R1 c]:CA T (n+6) 152 [some (Ent.box R1)] [.ptr 0 0 0,.i .i64 i]=(QbX c i).map fun r=>(.agg [.i .i64 r.2.Id,.i .i64 r.2.Kind,.sl 1,.i .i64 r.2.SizeLow,.i .i64 r.2.SizeHigh,.sl 2,.i .i64 r.2.Span.From,.i .i64 r.2.Span.Until],[some (Ent.box (Qw r.1)),some (Ent.lst 1 (r.2.Colours.map Qj)),some (Ent.lst 1 (r.2.Places.map Qj))]):=by
 obtain⟨rfl⟩:=H1;rw[QaJ];simp -dsimp +contextual (maxSteps:=100000000) only[↓evA,eZ,Nat.reduceAdd,Nat.reduceMul,Nat.reduceBEq,Nat.reduceLeDiff,Nat.reduceLT,Tryz.func152,Tryz.f152,QHH,Qt3,srt,Qo,QmV,Qhd]
 try simp only[QbX,eY]
 all_goals rfl
theorem QiW{R1 c}[H1:EncR Qw R1 c]:CA T (n+4) 154 [some (Ent.box R1)] [.ptr 0 0 0]=(QbI c).map fun r=>(.i .i64 r.2,[some (Ent.box (Qw r.1))]):=by
 obtain⟨rfl⟩:=H1;rw[QaJ];simp -dsimp +contextual (maxSteps:=100000000) only[↓evA,eZ,Nat.reduceAdd,Nat.reduceMul,Nat.reduceBEq,Nat.reduceLeDiff,Nat.reduceLT,Tryz.func154,Tryz.f154,QJu,QsK,srt,Zk]
 try simp only[QbI,eY]
 all_goals rfl
theorem Qom{R1 c}[H1:EncR Qw R1 c]:CA T (n+5) 155 [some (Ent.box R1)] [.ptr 0 0 0]=(QdJ c).map fun r=>(.agg (Qiq r.2),[some (Ent.box (Qw r.1))]):=by
 obtain⟨rfl⟩:=H1;rw[QaJ];simp -dsimp +contextual (maxSteps:=100000000) only[↓evA,eZ,Nat.reduceAdd,Nat.reduceMul,Nat.reduceBEq,Nat.reduceLeDiff,Nat.reduceLT,Tryz.func155,Tryz.f155,QJN,QsE,srt,Qhd,Qo,QiW,Zk]
 try simp only[QdJ,eY]
 all_goals rfl
theorem QoI{R1 c}[H1:EncR Qw R1 c]:CA T (n+7) 79 [some (Ent.box R1)] [.ptr 0 0 0]=(QdO c).map fun r=>(.agg [.i .i64 r.2.Id,.i .i64 r.2.Kind,.sl 1,.i .i64 r.2.SizeLow,.i .i64 r.2.SizeHigh,.sl 2,.i .i64 r.2.Span.From,.i .i64 r.2.Span.Until],[some (Ent.box (Qw r.1)),some (Ent.lst 1 (r.2.Colours.map Qj)),some (Ent.lst 1 (r.2.Places.map Qj))]):=by
 obtain⟨rfl⟩:=H1;rw[QaJ];simp -dsimp +contextual (maxSteps:=100000000) only[↓evA,eZ,Nat.reduceAdd,Nat.reduceMul,Nat.reduceBEq,Nat.reduceLeDiff,Nat.reduceLT,Tryz.func79,Tryz.f79,QRC,QyR,srt,Qo,Xs,Zk,QiW,Qom]
 try simp only[QdO,eY]
 all_goals rfl
theorem Qag(a b):CP T (n+1) 156 [.i .i64 a,.i .i64 b]=(Qc0 a b).map fun r=>.i .i64 r:=by
 rw[Qm];simp -dsimp +contextual only[↓evA,eZ,Nat.reduceAdd,Nat.reduceMul,Nat.reduceBEq,Nat.reduceLeDiff,Nat.reduceLT,Tryz.func156,Tryz.f156,QHm,Qtr]
 try simp only[Qc0,eY]
 all_goals rfl
def QEa:OT:=.one 3 (.alt (.one 0 (.alt (.one 1 (.alt (.one 2 (.one 4 (.one 5 (.one 6 (.one 7 (.one 8 (.done))))))) (.one 4 (.one 2 (.one 5 (.one 6 (.one 7 (.one 8 (.done))))))))) (.one 4 (.one 1 (.one 2 (.one 5 (.one 6 (.one 7 (.one 8 (.done)))))))))) (.one 4 (.one 0 (.one 1 (.one 2 (.one 5 (.one 6 (.one 7 (.one 8 (.done))))))))))
def QDI:OT:=.one 3 (.alt (.one 0 (.alt (.one 1 (.alt (.one 2 (.one 4 (.one 5 (.one 6 (.one 7 (.one 8 (.done))))))) (.one 4 (.one 2 (.one 5 (.one 6 (.one 7 (.one 8 (.done))))))))) (.one 4 (.one 1 (.one 2 (.one 5 (.one 6 (.one 7 (.one 8 (.done)))))))))) (.one 4 (.one 0 (.one 1 (.one 2 (.one 5 (.one 6 (.one 7 (.one 8 (.done))))))))))
def Qpu:OT:=.one 2 (.alt (.one 0 (.alt (.one 1 (.alt (.one 3 (.one 4 (.one 6 (.one 7 (.one 5 (.one 8 (.one 9 (.one 10 (.one 11 (.done)))))))))) (.one 6 (.alt (.one 3 (.one 4 (.one 7 (.one 5 (.one 8 (.one 9 (.one 10 (.one 11 (.done))))))))) (.one 7 (.one 3 (.one 4 (.one 5 (.one 8 (.one 9 (.one 10 (.one 11 (.done))))))))))))) (.alt (.one 3 (.one 1 (.one 4 (.one 6 (.one 7 (.one 5 (.one 8 (.one 9 (.one 10 (.one 11 (.done))))))))))) (.one 6 (.alt (.one 1 (.alt (.one 3 (.one 4 (.one 7 (.one 5 (.one 8 (.one 9 (.one 10 (.one 11 (.done))))))))) (.one 7 (.one 3 (.one 4 (.one 5 (.one 8 (.one 9 (.one 10 (.one 11 (.done))))))))))) (.alt (.one 3 (.one 1 (.one 4 (.one 7 (.one 5 (.one 8 (.one 9 (.one 10 (.one 11 (.done)))))))))) (.one 7 (.alt (.one 1 (.one 3 (.one 4 (.one 5 (.one 8 (.one 9 (.one 10 (.one 11 (.done))))))))) (.one 3 (.one 1 (.one 4 (.one 5 (.one 8 (.one 9 (.one 10 (.one 11 (.done))))))))))))))))) (.alt (.one 3 (.one 0 (.one 1 (.one 4 (.one 6 (.one 7 (.one 5 (.one 8 (.one 9 (.one 10 (.one 11 (.done)))))))))))) (.one 6 (.alt (.one 0 (.alt (.one 1 (.alt (.one 3 (.one 4 (.one 7 (.one 5 (.one 8 (.one 9 (.one 10 (.one 11 (.done))))))))) (.one 7 (.one 3 (.one 4 (.one 5 (.one 8 (.one 9 (.one 10 (.one 11 (.done))))))))))) (.alt (.one 3 (.one 1 (.one 4 (.one 7 (.one 5 (.one 8 (.one 9 (.one 10 (.one 11 (.done)))))))))) (.one 7 (.alt (.one 1 (.one 3 (.one 4 (.one 5 (.one 8 (.one 9 (.one 10 (.one 11 (.done))))))))) (.one 3 (.one 1 (.one 4 (.one 5 (.one 8 (.one 9 (.one 10 (.one 11 (.done)))))))))))))) (.alt (.one 3 (.one 0 (.one 1 (.one 4 (.one 7 (.one 5 (.one 8 (.one 9 (.one 10 (.one 11 (.done))))))))))) (.one 7 (.alt (.one 0 (.alt (.one 1 (.one 3 (.one 4 (.one 5 (.one 8 (.one 9 (.one 10 (.one 11 (.done))))))))) (.one 3 (.one 1 (.one 4 (.one 5 (.one 8 (.one 9 (.one 10 (.one 11 (.done))))))))))) (.one 3 (.one 0 (.one 1 (.one 4 (.one 5 (.one 8 (.one 9 (.one 10 (.one 11 (.done)))))))))))))))))
theorem Qje:An81.ot=[(6,QEa),(7,QDI),(11,Qpu)]:=rfl
theorem Qfu:An81.ord=[]:=rfl
theorem Qie:An81.ac=[]:=rfl
theorem QiD:An81.av=[(1,[152]),(3,[80]),(5,[80]),(6,[77]),(7,[77]),(8,[80]),(10,[80]),(11,[77])]:=rfl
theorem QiB:An81.an=[]:=rfl
theorem Qja:An81.eb=[]:=rfl
theorem Qid:An81.ak=[0]:=rfl
theorem Qh1:An81.jn=[]:=rfl
theorem QiQ:An81.fz=[]:=rfl
theorem Qif:An81.fc=[]:=rfl
theorem Qi1:An81.nr=some [.r 0,.g 64 2 1,.g 64 5 1]:=rfl
theorem Qij:An81.wr=true:=rfl
def sfx:Nat→Code→Code
 |n+1,.seq _ b=>sfx n b
 |_,c=>c
def rps:Nat→Code→Code→Code
 |n+1,s,.seq a b=>.seq a (rps n s b)
 |_,s,_=>s
theorem QpF(n s a b):rps (n+1) s (.seq a b)=.seq a (rps n s b):=rfl
theorem QpZ(s c):rps 0 s c=s:=rfl
noncomputable def B8:Code:=Tryz.f81.body.getD .skip
noncomputable def S5:Code:=sfx 4 B8
noncomputable def S8:Code:=sfx 5 B8
noncomputable def S10:Code:=sfx 6 B8
noncomputable def F8:Func:={ Tryz.f81 with body:=some (rps 4 S5 (Tryz.f81.body.getD .skip)) }
theorem QF6:Tryz.prog.funcs[81]?=some F8:=Tryz.func81
noncomputable def R5:Code:=rps 1 S8 (sfx 4 B8)
noncomputable def R8:Code:=rps 1 S10 (sfx 5 B8)
theorem Qkl(n a b):sfx (n+1) (.seq a b)=sfx n b:=rfl
theorem Qke(c):sfx 0 c=c:=rfl
theorem QCh:S5=R5:=rfl
theorem QCz:S8=R8:=rfl
theorem QAh{g:Fr}(d k:Int)(lo hi:Int)(fr un:Int){R1 c R2 f R3 co R4 pl}[H1:EncR Qw R1 c][H2:EncR QX R2 f][H3:EncL Qj R3 co][H4:EncL Qj R4 pl](h0:g 0=.ptr 0 0 0)(h4:g 4=.ptr 1 0 0)(h6:g 6=.ptr 2 0 0)(h7:g 7=.ptr 5 0 0):Vl Tryz.prog (orc T (n+6) 81) An81 S10 (Qdh T.P An81.ak An81.nr 64 [ResultVar.cell 6 68]) g [some (Ent.box R1),some (Ent.box R2),some (Ent.box [.i .i64 0,.i .i64 0,.nil,.i .i64 0,.i .i64 0,.nil,.i .i64 0,.i .i64 0]),some (Ent.lst 1 R3),some (Ent.lst 1 R4),some (Ent.box [.i .i64 d,.i .i64 k,.sl 3,.i .i64 lo,.i .i64 hi,.sl 4,.i .i64 fr,.i .i64 un])] ()=(Vy c f d k co lo hi pl fr un).map fun r=>(.agg [.i .i64 r.2.Id,.i .i64 r.2.Kind,.sl 1,.i .i64 r.2.SizeLow,.i .i64 r.2.SizeHigh,.sl 2,.i .i64 r.2.Span.From,.i .i64 r.2.Span.Until],[some (Ent.box (Qw r.1)),some (Ent.lst 1 (r.2.Colours.map Qj)),some (Ent.lst 1 (r.2.Places.map Qj))]):=by
 rcases H1,H2,H3,H4 with⟨⟨rfl⟩,⟨rfl⟩,⟨rfl⟩,⟨rfl⟩⟩
 obtain⟨X,hX⟩:∃X,X=S10:=⟨_,rfl⟩;rw[←hX];simp only[S10,Qkl,Qke,B8,Tryz.f81,Option.getD_some]at hX;subst hX;simp -dsimp +contextual (maxSteps:=100000000) only[↓evA,eZ,Nat.reduceAdd,Nat.reduceMul,Nat.reduceBEq,Nat.reduceLeDiff,Nat.reduceLT,Qoh,Qje,Qij,Qfu,Qie,QiD,QiB,Qja,Qid,Qh1,QiQ,Qif,Qi1,srt,Xs,VQ,Qo,Qag,J4,Qpu,h0,h4,h6,h7]
 try simp only[Vy,eY]
 all_goals rfl
theorem QBz{g:Fr}(d k:Int)(lo hi:Int)(fr un:Int){x3:Option Ent}{R1 c R2 f R3 co R4 pl}[H1:EncR Qw R1 c][H2:EncR QX R2 f][H3:EncL Qj R3 co][H4:EncL Qj R4 pl](h0:g 0=.ptr 0 0 0)(h4:g 4=.ptr 1 0 0)(h6:g 6=.ptr 2 0 0)(h7:g 7=.ptr 5 0 0):Vl Tryz.prog (orc T (n+6) 81) An81 S10 (Qdh T.P An81.ak An81.nr 64 [ResultVar.cell 6 68]) g [some (Ent.box R1),some (Ent.box R2),some (Ent.box [.i .i64 0,.i .i64 0,.nil,.i .i64 0,.i .i64 0,.nil,.i .i64 0,.i .i64 0]),x3,some (Ent.lst 1 R4),some (Ent.box [.i .i64 d,.i .i64 k,.sl 6,.i .i64 lo,.i .i64 hi,.sl 4,.i .i64 fr,.i .i64 un]),some (Ent.lst 1 R3)] ()=(Vy c f d k co lo hi pl fr un).map fun r=>(.agg [.i .i64 r.2.Id,.i .i64 r.2.Kind,.sl 1,.i .i64 r.2.SizeLow,.i .i64 r.2.SizeHigh,.sl 2,.i .i64 r.2.Span.From,.i .i64 r.2.Span.Until],[some (Ent.box (Qw r.1)),some (Ent.lst 1 (r.2.Colours.map Qj)),some (Ent.lst 1 (r.2.Places.map Qj))]):=by
 rcases H1,H2,H3,H4 with⟨⟨rfl⟩,⟨rfl⟩,⟨rfl⟩,⟨rfl⟩⟩
 obtain⟨X,hX⟩:∃X,X=S10:=⟨_,rfl⟩;rw[←hX];simp only[S10,Qkl,Qke,B8,Tryz.f81,Option.getD_some]at hX;subst hX;simp -dsimp +contextual (maxSteps:=100000000) only[↓evA,eZ,Nat.reduceAdd,Nat.reduceMul,Nat.reduceBEq,Nat.reduceLeDiff,Nat.reduceLT,Qoh,Qje,Qij,Qfu,Qie,QiD,QiB,Qja,Qid,Qh1,QiQ,Qif,Qi1,srt,Xs,VQ,Qo,Qag,J4,Qpu,h0,h4,h6,h7]
 try simp only[Vy,eY]
 all_goals rfl
theorem Qy7{g:Fr}(d k:Int)(lo hi:Int)(fr un:Int){x4:Option Ent}{R1 c R2 f R3 co R4 pl}[H1:EncR Qw R1 c][H2:EncR QX R2 f][H3:EncL Qj R3 co][H4:EncL Qj R4 pl](h0:g 0=.ptr 0 0 0)(h4:g 4=.ptr 1 0 0)(h6:g 6=.ptr 2 0 0)(h7:g 7=.ptr 5 0 0):Vl Tryz.prog (orc T (n+6) 81) An81 S10 (Qdh T.P An81.ak An81.nr 64 [ResultVar.cell 6 68]) g [some (Ent.box R1),some (Ent.box R2),some (Ent.box [.i .i64 0,.i .i64 0,.nil,.i .i64 0,.i .i64 0,.nil,.i .i64 0,.i .i64 0]),some (Ent.lst 1 R3),x4,some (Ent.box [.i .i64 d,.i .i64 k,.sl 3,.i .i64 lo,.i .i64 hi,.sl 6,.i .i64 fr,.i .i64 un]),some (Ent.lst 1 R4)] ()=(Vy c f d k co lo hi pl fr un).map fun r=>(.agg [.i .i64 r.2.Id,.i .i64 r.2.Kind,.sl 1,.i .i64 r.2.SizeLow,.i .i64 r.2.SizeHigh,.sl 2,.i .i64 r.2.Span.From,.i .i64 r.2.Span.Until],[some (Ent.box (Qw r.1)),some (Ent.lst 1 (r.2.Colours.map Qj)),some (Ent.lst 1 (r.2.Places.map Qj))]):=by
 rcases H1,H2,H3,H4 with⟨⟨rfl⟩,⟨rfl⟩,⟨rfl⟩,⟨rfl⟩⟩
 obtain⟨X,hX⟩:∃X,X=S10:=⟨_,rfl⟩;rw[←hX];simp only[S10,Qkl,Qke,B8,Tryz.f81,Option.getD_some]at hX;subst hX;simp -dsimp +contextual (maxSteps:=100000000) only[↓evA,eZ,Nat.reduceAdd,Nat.reduceMul,Nat.reduceBEq,Nat.reduceLeDiff,Nat.reduceLT,Qoh,Qje,Qij,Qfu,Qie,QiD,QiB,Qja,Qid,Qh1,QiQ,Qif,Qi1,srt,Xs,VQ,Qo,Qag,J4,Qpu,h0,h4,h6,h7]
 try simp only[Vy,eY]
 all_goals rfl
theorem QAx{g:Fr}(d k:Int)(lo hi:Int)(fr un:Int){x3:Option Ent}{x4:Option Ent}{R1 c R2 f R3 co R4 pl}[H1:EncR Qw R1 c][H2:EncR QX R2 f][H3:EncL Qj R3 co][H4:EncL Qj R4 pl](h0:g 0=.ptr 0 0 0)(h4:g 4=.ptr 1 0 0)(h6:g 6=.ptr 2 0 0)(h7:g 7=.ptr 5 0 0):Vl Tryz.prog (orc T (n+6) 81) An81 S10 (Qdh T.P An81.ak An81.nr 64 [ResultVar.cell 6 68]) g [some (Ent.box R1),some (Ent.box R2),some (Ent.box [.i .i64 0,.i .i64 0,.nil,.i .i64 0,.i .i64 0,.nil,.i .i64 0,.i .i64 0]),x3,x4,some (Ent.box [.i .i64 d,.i .i64 k,.sl 6,.i .i64 lo,.i .i64 hi,.sl 7,.i .i64 fr,.i .i64 un]),some (Ent.lst 1 R3),some (Ent.lst 1 R4)] ()=(Vy c f d k co lo hi pl fr un).map fun r=>(.agg [.i .i64 r.2.Id,.i .i64 r.2.Kind,.sl 1,.i .i64 r.2.SizeLow,.i .i64 r.2.SizeHigh,.sl 2,.i .i64 r.2.Span.From,.i .i64 r.2.Span.Until],[some (Ent.box (Qw r.1)),some (Ent.lst 1 (r.2.Colours.map Qj)),some (Ent.lst 1 (r.2.Places.map Qj))]):=by
 rcases H1,H2,H3,H4 with⟨⟨rfl⟩,⟨rfl⟩,⟨rfl⟩,⟨rfl⟩⟩
 obtain⟨X,hX⟩:∃X,X=S10:=⟨_,rfl⟩;rw[←hX];simp only[S10,Qkl,Qke,B8,Tryz.f81,Option.getD_some]at hX;subst hX;simp -dsimp +contextual (maxSteps:=100000000) only[↓evA,eZ,Nat.reduceAdd,Nat.reduceMul,Nat.reduceBEq,Nat.reduceLeDiff,Nat.reduceLT,Qoh,Qje,Qij,Qfu,Qie,QiD,QiB,Qja,Qid,Qh1,QiQ,Qif,Qi1,srt,Xs,VQ,Qo,Qag,J4,Qpu,h0,h4,h6,h7]
 try simp only[Vy,eY]
 all_goals rfl
theorem QDF{g:Fr}(d k:Int)(lo hi:Int)(fr un:Int){R1 c R2 f R3 co R4 pl}[H1:EncR Qw R1 c][H2:EncR QX R2 f][H3:EncL Qj R3 co][H4:EncL Qj R4 pl](h0:g 0=.ptr 0 0 0)(h4:g 4=.ptr 1 0 0)(h6:g 6=.ptr 2 0 0)(h7:g 7=.ptr 5 0 0):Vl Tryz.prog (orc T (n+6) 81) An81 S8 (Qdh T.P An81.ak An81.nr 64 [ResultVar.cell 6 68]) g [some (Ent.box R1),some (Ent.box R2),some (Ent.box [.i .i64 0,.i .i64 0,.nil,.i .i64 0,.i .i64 0,.nil,.i .i64 0,.i .i64 0]),some (Ent.lst 1 R3),some (Ent.lst 1 R4),some (Ent.box [.i .i64 d,.i .i64 k,.sl 3,.i .i64 lo,.i .i64 hi,.sl 4,.i .i64 fr,.i .i64 un])] ()=(JO c f d k co lo hi pl fr un).map fun r=>(.agg [.i .i64 r.2.Id,.i .i64 r.2.Kind,.sl 1,.i .i64 r.2.SizeLow,.i .i64 r.2.SizeHigh,.sl 2,.i .i64 r.2.Span.From,.i .i64 r.2.Span.Until],[some (Ent.box (Qw r.1)),some (Ent.lst 1 (r.2.Colours.map Qj)),some (Ent.lst 1 (r.2.Places.map Qj))]):=by
 rcases H1,H2,H3,H4 with⟨⟨rfl⟩,⟨rfl⟩,⟨rfl⟩,⟨rfl⟩⟩
 obtain⟨X,hX⟩:∃X,X=S8:=⟨_,rfl⟩;rw[←hX];simp only[QCz,R8,Qkl,Qke,B8,Tryz.f81,Option.getD_some,QpF,QpZ]at hX;subst hX;simp -dsimp +contextual (maxSteps:=100000000) only[↓evA,eZ,Nat.reduceAdd,Nat.reduceMul,Nat.reduceBEq,Nat.reduceLeDiff,Nat.reduceLT,Qoh,Qje,Qij,Qfu,Qie,QiD,QiB,Qja,Qid,Qh1,QiQ,Qif,Qi1,srt,Xs,VQ,Qo,Qag,J4,QAh n,Qy7 n,h0,h4,h6,h7]
 try simp only[JO,eY]
 all_goals rfl
theorem QDZ{g:Fr}(d k:Int)(lo hi:Int)(fr un:Int){x3:Option Ent}{R1 c R2 f R3 co R4 pl}[H1:EncR Qw R1 c][H2:EncR QX R2 f][H3:EncL Qj R3 co][H4:EncL Qj R4 pl](h0:g 0=.ptr 0 0 0)(h4:g 4=.ptr 1 0 0)(h6:g 6=.ptr 2 0 0)(h7:g 7=.ptr 5 0 0):Vl Tryz.prog (orc T (n+6) 81) An81 S8 (Qdh T.P An81.ak An81.nr 64 [ResultVar.cell 6 68]) g [some (Ent.box R1),some (Ent.box R2),some (Ent.box [.i .i64 0,.i .i64 0,.nil,.i .i64 0,.i .i64 0,.nil,.i .i64 0,.i .i64 0]),x3,some (Ent.lst 1 R4),some (Ent.box [.i .i64 d,.i .i64 k,.sl 6,.i .i64 lo,.i .i64 hi,.sl 4,.i .i64 fr,.i .i64 un]),some (Ent.lst 1 R3)] ()=(JO c f d k co lo hi pl fr un).map fun r=>(.agg [.i .i64 r.2.Id,.i .i64 r.2.Kind,.sl 1,.i .i64 r.2.SizeLow,.i .i64 r.2.SizeHigh,.sl 2,.i .i64 r.2.Span.From,.i .i64 r.2.Span.Until],[some (Ent.box (Qw r.1)),some (Ent.lst 1 (r.2.Colours.map Qj)),some (Ent.lst 1 (r.2.Places.map Qj))]):=by
 rcases H1,H2,H3,H4 with⟨⟨rfl⟩,⟨rfl⟩,⟨rfl⟩,⟨rfl⟩⟩
 obtain⟨X,hX⟩:∃X,X=S8:=⟨_,rfl⟩;rw[←hX];simp only[QCz,R8,Qkl,Qke,B8,Tryz.f81,Option.getD_some,QpF,QpZ]at hX;subst hX;simp -dsimp +contextual (maxSteps:=100000000) only[↓evA,eZ,Nat.reduceAdd,Nat.reduceMul,Nat.reduceBEq,Nat.reduceLeDiff,Nat.reduceLT,Qoh,Qje,Qij,Qfu,Qie,QiD,QiB,Qja,Qid,Qh1,QiQ,Qif,Qi1,srt,Xs,VQ,Qo,Qag,J4,QBz n,QAx n,h0,h4,h6,h7]
 try simp only[JO,eY]
 all_goals rfl
theorem QEj{g:Fr}(d k:Int)(lo hi:Int)(fr un:Int){R1 c R2 f R3 co R4 pl}[H1:EncR Qw R1 c][H2:EncR QX R2 f][H3:EncL Qj R3 co][H4:EncL Qj R4 pl](h0:g 0=.ptr 0 0 0)(h4:g 4=.ptr 1 0 0)(h6:g 6=.ptr 2 0 0)(h7:g 7=.ptr 5 0 0):Vl Tryz.prog (orc T (n+6) 81) An81 S5 (Qdh T.P An81.ak An81.nr 64 [ResultVar.cell 6 68]) g [some (Ent.box R1),some (Ent.box R2),some (Ent.box [.i .i64 0,.i .i64 0,.nil,.i .i64 0,.i .i64 0,.nil,.i .i64 0,.i .i64 0]),some (Ent.lst 1 R3),some (Ent.lst 1 R4),some (Ent.box [.i .i64 d,.i .i64 k,.sl 3,.i .i64 lo,.i .i64 hi,.sl 4,.i .i64 fr,.i .i64 un])] ()=(JR c f d k co lo hi pl fr un).map fun r=>(.agg [.i .i64 r.2.Id,.i .i64 r.2.Kind,.sl 1,.i .i64 r.2.SizeLow,.i .i64 r.2.SizeHigh,.sl 2,.i .i64 r.2.Span.From,.i .i64 r.2.Span.Until],[some (Ent.box (Qw r.1)),some (Ent.lst 1 (r.2.Colours.map Qj)),some (Ent.lst 1 (r.2.Places.map Qj))]):=by
 rcases H1,H2,H3,H4 with⟨⟨rfl⟩,⟨rfl⟩,⟨rfl⟩,⟨rfl⟩⟩
 obtain⟨X,hX⟩:∃X,X=S5:=⟨_,rfl⟩;rw[←hX];simp only[QCh,R5,Qkl,Qke,B8,Tryz.f81,Option.getD_some,QpF,QpZ]at hX;subst hX;simp -dsimp +contextual (maxSteps:=100000000) only[↓evA,eZ,Nat.reduceAdd,Nat.reduceMul,Nat.reduceBEq,Nat.reduceLeDiff,Nat.reduceLT,Qoh,Qje,Qij,Qfu,Qie,QiD,QiB,Qja,Qid,Qh1,QiQ,Qif,Qi1,srt,Xs,VQ,Qo,Qag,J4,QEa,QDI,QDF n,h0,h4,h6,h7]
 try simp only[JR,eY]
 all_goals rfl
theorem QFj{g:Fr}(d k:Int)(lo hi:Int)(fr un:Int){x3:Option Ent}{R1 c R2 f R3 co R4 pl}[H1:EncR Qw R1 c][H2:EncR QX R2 f][H3:EncL Qj R3 co][H4:EncL Qj R4 pl](h0:g 0=.ptr 0 0 0)(h4:g 4=.ptr 1 0 0)(h6:g 6=.ptr 2 0 0)(h7:g 7=.ptr 5 0 0):Vl Tryz.prog (orc T (n+6) 81) An81 S5 (Qdh T.P An81.ak An81.nr 64 [ResultVar.cell 6 68]) g [some (Ent.box R1),some (Ent.box R2),some (Ent.box [.i .i64 0,.i .i64 0,.nil,.i .i64 0,.i .i64 0,.nil,.i .i64 0,.i .i64 0]),x3,some (Ent.lst 1 R4),some (Ent.box [.i .i64 d,.i .i64 k,.sl 6,.i .i64 lo,.i .i64 hi,.sl 4,.i .i64 fr,.i .i64 un]),some (Ent.lst 1 R3)] ()=(JR c f d k co lo hi pl fr un).map fun r=>(.agg [.i .i64 r.2.Id,.i .i64 r.2.Kind,.sl 1,.i .i64 r.2.SizeLow,.i .i64 r.2.SizeHigh,.sl 2,.i .i64 r.2.Span.From,.i .i64 r.2.Span.Until],[some (Ent.box (Qw r.1)),some (Ent.lst 1 (r.2.Colours.map Qj)),some (Ent.lst 1 (r.2.Places.map Qj))]):=by
 rcases H1,H2,H3,H4 with⟨⟨rfl⟩,⟨rfl⟩,⟨rfl⟩,⟨rfl⟩⟩
 obtain⟨X,hX⟩:∃X,X=S5:=⟨_,rfl⟩;rw[←hX];simp only[QCh,R5,Qkl,Qke,B8,Tryz.f81,Option.getD_some,QpF,QpZ]at hX;subst hX;simp -dsimp +contextual (maxSteps:=100000000) only[↓evA,eZ,Nat.reduceAdd,Nat.reduceMul,Nat.reduceBEq,Nat.reduceLeDiff,Nat.reduceLT,Qoh,Qje,Qij,Qfu,Qie,QiD,QiB,Qja,Qid,Qh1,QiQ,Qif,Qi1,srt,Xs,VQ,Qo,Qag,J4,QEa,QDI,QDZ n,h0,h4,h6,h7]
 try simp only[JR,eY]
 all_goals rfl
theorem Qoz(i){R1 c R2 f}[H1:EncR Qw R1 c][H2:EncR QX R2 f]:CA T (n+7) 81 [some (Ent.box R1)] [.ptr 0 0 0,.agg R2,.i .i64 i]=(QcK c f i).map fun r=>(.agg [.i .i64 r.2.Id,.i .i64 r.2.Kind,.sl 1,.i .i64 r.2.SizeLow,.i .i64 r.2.SizeHigh,.sl 2,.i .i64 r.2.Span.From,.i .i64 r.2.Span.Until],[some (Ent.box (Qw r.1)),some (Ent.lst 1 (r.2.Colours.map Qj)),some (Ent.lst 1 (r.2.Places.map Qj))]):=by
 rcases H1,H2 with⟨⟨rfl⟩,⟨rfl⟩⟩
 rw[QaJ];simp -dsimp +contextual (maxSteps:=100000000) only[↓evA,eZ,Nat.reduceAdd,Nat.reduceMul,Nat.reduceBEq,Nat.reduceLeDiff,Nat.reduceLT,QF6,F8,Tryz.f81,Option.getD_some,QpF,QpZ,Qoh,Qje,Qij,Qfu,Qie,QiD,QiB,Qja,Qid,Qh1,QiQ,Qif,Qi1,srt,Xs,VQ,Qo,Qag,J4,QEj n,QFj n]
 try simp only[QcK,eY]
 all_goals rfl
theorem QfL(i){R1 c R2 c2 R3 l}[H1:EncL QbJ R1 c][H2:EncR Qw R2 c2][H3:EncL X8 R3 l]:LP T (n+17) 20 4 (frm [(0,.imm 1 R1),(2,.ptr 0 0 0),(5,.ptr 1 0 0),(6,.sl 2),(7,.i .i64 i)]) [some (Ent.box [.i .i64 0,.i .i64 0,.nil,.i .i64 0,.i .i64 0,.nil,.i .i64 0,.i .i64 0]),some (Ent.box R2),some (Ent.lst 9 R3)] =
  (run (XH c) (c2,l,i)).map (fun(zr:l1Cur×(List House))=>(XE.exit 0,frm [(0,.imm 1 (c.map QbJ)),(2,.ptr 0 0 0),(5,.ptr 1 0 0),(6,.sl 2)],[some (Ent.box [.i .i64 0,.i .i64 0,.nil,.i .i64 0,.i .i64 0,.nil,.i .i64 0,.i .i64 0]),some (Ent.box (Qw zr.1)),some (Ent.lst 9 (zr.2.map X8))])):=by
 rcases H1,H2,H3 with⟨⟨rfl⟩,⟨rfl⟩,⟨rfl⟩⟩
 rw[QK];simp -dsimp only[↓evA,evB,Qu,Tryz.func20,Tryz.f20,QG6,Qwb,TP,TZ,Nat.reduceAdd,Nat.reduceMul,Nat.reduceBEq,Nat.reduceLeDiff,Nat.reduceLT];apply QdQ c2 l i;intro c2 l i;simp -dsimp +contextual (maxSteps:=100000000) only[↓evA,eZ,Nat.reduceAdd,Nat.reduceMul,Nat.reduceBEq,Nat.reduceLeDiff,Nat.reduceLT,srt,Qfw,Qgv,QeR]
 try simp only[XH,eY]
 try simp only[List.contains_nil,Bool.not_false,Bool.and_true,VA,List.length_append,List.length_cons,List.length_nil,Nat.zero_add,VC,VT]
 all_goals rfl
end Go.Proofs.YtonidbheohhgdaaGreat
