import Derived.Test.YtoilkmgiofimjaaGreatDoorEq1
namespace Go.Proofs.YtoilkmgiofimjaaGreatDoor
open Go Go.Proofs Go.Proofs.YtoilkmgiofimjaaGreatDoor.Am Tryz
set_option maxHeartbeats 4000000
set_option linter.unusedVariables false
set_option linter.unusedSimpArgs false
set_option linter.defProp false
set_option maxRecDepth 100000
variable(n:Nat)
theorem Rq(a i){R1 l}[H1:EncL VD R1 l]:LP T (n+1) 137 2 (frm [(0,.imm 3 R1),(1,.i .i64 a),(5,.i .i64 i)]) [] =
  Xy (run (JL l a) i) (λ(zr:Int)=>(XE.ret,frm [(4,.i .i64 zr)],[])) (λ(zr:Unit)=>(XE.exit 0,frm [],[])):=by
 obtain⟨rfl⟩:=H1;rw[Qw];simp -dsimp only[↓evA,evB,Qt,func137,f137,QaA,cJ,TP,TZ,simprocAttr];apply QB i;intro i;simp -dsimp +contextual only[↓evA,eZ,simprocAttr]
 try simp only[JL,eY]
 all_goals rfl
theorem E8(a){R1 l}[H1:EncL VD R1 l]:CP T (n+2) 137 [.imm 3 R1,.i .i64 a]=(J2 l a).map λr=>.i .i64 r:=by
 obtain⟨rfl⟩:=H1;rw[Qp];simp -dsimp +contextual only[↓evA,eZ,simprocAttr,func137,f137,QaA,cJ,Rq]
 try simp only[J2,eY]
 all_goals rfl
theorem MY(i2){R1 a R2 i}[H1:EncR QJ R1 a][H2:EncL QA R2 i]:LP T (n+3) 129 5 (frm [(1,.ptr 0 0 0),(3,.sl 1),(4,.i .i64 i2)]) [some (Ent.box R1),some (Ent.lst 1 R2)] =
  Xy (run (ZT a i) i2) (λ(zr:Bool)=>(XE.ret,frm [(2,.b zr)],[])) (λ(zr:Unit)=>(XE.exit 0,frm [(1,.ptr 0 0 0),(3,.sl 1)],[some (Ent.box (QJ a)),some (Ent.lst 1 (i.map QA))])):=by
 rcases H1,H2 with⟨⟨rfl⟩,⟨rfl⟩⟩
 rw[Qw];simp -dsimp only[↓evA,evB,Qt,func129,f129,mz,UY,TP,TZ,simprocAttr];apply QB i2;intro i2;simp -dsimp +contextual (maxSteps:=100000000) only[↓evA,eZ,simprocAttr,XN]
 try simp only[ZT,eY]
 all_goals rfl
theorem Lg(i2){R1 a R2 i}[H1:EncR QJ R1 a][H2:EncL QA R2 i]:LP T (n+3) 129 10 (frm [(1,.ptr 0 0 0),(3,.sl 1),(5,.i .i64 i2)]) [some (Ent.box R1),some (Ent.lst 1 R2)] =
  Xy (run (Zj a i) i2) (λ(zr:Bool)=>(XE.ret,frm [(2,.b zr)],[])) (λ(zr:Unit)=>(XE.exit 2,frm [(1,.ptr 0 0 0)],[some (Ent.box (QJ a))])):=by
 rcases H1,H2 with⟨⟨rfl⟩,⟨rfl⟩⟩
 rw[Qw];simp -dsimp only[↓evA,evB,Qt,func129,f129,mz,UY,TP,TZ,simprocAttr];apply QB i2;intro i2;simp -dsimp +contextual (maxSteps:=100000000) only[↓evA,eZ,simprocAttr,E8,Kc]
 try simp only[Zj,eY]
 all_goals rfl
theorem LY(i){R1 a}[H1:EncR QJ R1 a]:LP T (n+3) 129 16 (frm [(1,.ptr 0 0 0),(7,.i .i64 i)]) [some (Ent.box R1)] =
  Xy (run (Zf a) i) (λ(zr:Bool)=>(XE.ret,frm [(2,.b zr)],[])) (λ(zr:Unit)=>(XE.exit 4,frm [],[])):=by
 obtain⟨rfl⟩:=H1;rw[Qw];simp -dsimp only[↓evA,evB,Qt,func129,f129,mz,UY,TP,TZ,simprocAttr];apply QB i;intro i;simp -dsimp +contextual (maxSteps:=100000000) only[↓evA,eZ,simprocAttr,XN]
 try simp only[Zf,eY]
 all_goals rfl
theorem Rc{R1 a}[H1:EncR QJ R1 a]:CP T (n+10) 129 [.agg R1]=(Cp a).map λr=>.b r:=by
 obtain⟨rfl⟩:=H1;rw[Qp];simp -dsimp +contextual (maxSteps:=100000000) only[↓evA,eZ,simprocAttr,func129,f129,mz,UY,LS,MY,Lg,LY]
 try simp only[Cp,eY]
 all_goals rfl
theorem Lp{R1 a}[H1:EncR VC R1 a]:CP T (n+2) 218 [.agg R1]=(C2 a).map λr=>.b r:=by
 obtain⟨rfl⟩:=H1;rw[Qp];simp -dsimp +contextual only[↓evA,eZ,simprocAttr,func218,f218,Qgz,kq,Q0]
 try simp only[C2,eY]
 all_goals rfl
theorem P5(a i){R1 l}[H1:EncL VR R1 l]:LP T (n+1) 153 2 (frm [(0,.imm 3 R1),(1,.i .i64 a),(5,.i .i64 i)]) [] =
  Xy (run (Bz l a) i) (λ(zr:Int)=>(XE.ret,frm [(4,.i .i64 zr)],[])) (λ(zr:Unit)=>(XE.exit 0,frm [],[])):=by
 obtain⟨rfl⟩:=H1;rw[Qw];simp -dsimp only[↓evA,evB,Qt,func153,f153,z7,cM,TP,TZ,simprocAttr];apply QB i;intro i;simp -dsimp +contextual only[↓evA,eZ,simprocAttr]
 try simp only[Bz,eY]
 all_goals rfl
theorem WV(a){R1 l}[H1:EncL VR R1 l]:CP T (n+2) 153 [.imm 3 R1,.i .i64 a]=(G2 l a).map λr=>.i .i64 r:=by
 obtain⟨rfl⟩:=H1;rw[Qp];simp -dsimp +contextual only[↓evA,eZ,simprocAttr,func153,f153,z7,cM,P5]
 try simp only[G2,eY]
 all_goals rfl
theorem Hb(a){R1 l}[H1:EncL VR R1 l]:CP T (n+3) 65 [.imm 3 R1,.i .i64 a]=(BE l a).map λr=>.own 2 (r.map X5):=by
 obtain⟨rfl⟩:=H1;rw[Qp];simp -dsimp +contextual only[↓evA,eZ,simprocAttr,func65,f65,Qo8,ye,WV]
 try simp only[BE,eY]
 all_goals first|rfl|(simp +contextual only[evN]<;>rfl)
theorem UX(a b):CP T (n+1) 224 [.i .i64 a,.i .i64 b]=(Iw a b).map λr=>.i .i64 r:=by
 rw[Qp];simp -dsimp +contextual only[↓evA,eZ,simprocAttr,func224,f224,QkB,md]
 try simp only[Iw,eY]
 all_goals rfl
theorem Uu{R1 l}[H1:EncL X5 R1 l]:CP T (n+2) 221 [.imm 2 R1]=(FJ l).map λr=>.i .i64 r:=by
 obtain⟨rfl⟩:=H1;rw[Qp];simp -dsimp +contextual only[↓evA,eZ,simprocAttr,func221,f221,QfU,mn,UX]
 try simp only[FJ,eY]
 all_goals rfl
theorem FP{R1 l R2 a}[H1:EncL X5 R1 l][H2:EncR VC R2 a]:CP T (n+4) 139 [.imm 2 R1,.agg R2]=(Z4 l a).map λr=>.i .i64 r:=by
 rcases H1,H2 with⟨⟨rfl⟩,⟨rfl⟩⟩
 rw[Qp];simp -dsimp +contextual only[↓evA,eZ,simprocAttr,func139,f139,QlL,lT,Lp,GF,Uu]
 try simp only[Z4,eY]
 all_goals rfl
theorem MM(i){R1 a}[H1:EncR QJ R1 a]:LP T (n+5) 130 4 (frm [(1,.ptr 0 0 0),(3,.i .i64 i)]) [some (Ent.box R1)] =
  Xy (run (ZM a) i) (λ(zr:Bool)=>(XE.ret,frm [(2,.b zr)],[])) (λ(zr:Unit)=>(XE.exit 0,frm [],[])):=by
 obtain⟨rfl⟩:=H1;rw[Qw];simp -dsimp only[↓evA,evB,Qt,func130,f130,Qaa,dA,TP,TZ,simprocAttr];apply QB i;intro i;simp -dsimp +contextual (maxSteps:=100000000) only[↓evA,eZ,simprocAttr,XN,Lp,Hb,FP]
 try simp only[ZM,eY]
 all_goals rfl
theorem RJ{R1 a}[H1:EncR QJ R1 a]:CP T (n+6) 130 [.agg R1]=(Ch a).map λr=>.b r:=by
 obtain⟨rfl⟩:=H1;rw[Qp];simp -dsimp +contextual (maxSteps:=100000000) only[↓evA,eZ,simprocAttr,func130,f130,Qaa,dA,MM]
 try simp only[Ch,eY]
 all_goals rfl
theorem Bd{R1 a}[H1:EncR QJ R1 a]:CP T (n+11) 48 [.agg R1]=(Vq a).map λr=>.b r:=by
 obtain⟨rfl⟩:=H1;rw[Qp];simp -dsimp +contextual (maxSteps:=100000000) only[↓evA,eZ,simprocAttr,func48,f48,Qtd,wm,Q0,GG,HP,GN,Gj,Ha,FZ,Rc,RJ]
 try simp only[Vq,eY]
 all_goals rfl
theorem MB(a i){R1 l}[H1:EncL VD R1 l]:LP T (n+1) 49 3 (frm [(0,.imm 3 R1),(3,.i .i64 a),(4,.i .i64 i)]) [] =
  (run (JR l) (a,i)).map (λ(zr:Int)=>(XE.exit 0,frm [(3,.i .i64 zr)],[])):=by
 obtain⟨rfl⟩:=H1;rw[Qw];simp -dsimp only[↓evA,evB,Qt,func49,f49,QmQ,s9,TP,TZ,simprocAttr];apply QO a i;intro a i;simp -dsimp +contextual only[↓evA,eZ,simprocAttr]
 try simp only[JR,eY]
 all_goals rfl
theorem RD{R1 l}[H1:EncL VD R1 l]:CP T (n+2) 49 [.imm 3 R1]=(D9 l).map λr=>.i .i64 r:=by
 obtain⟨rfl⟩:=H1;rw[Qp];simp -dsimp +contextual only[↓evA,eZ,simprocAttr,func49,f49,QmQ,s9,MB]
 try simp only[D9,eY]
 all_goals rfl
theorem Tu(a){R1 s}[H1:EncL VD R1 s]:CP T (n+12) 20 [.i .i64 a,.imm 3 R1]=(Zy a s).map λr=>.tup [.agg (VW r.1),.b r.2]:=by
 obtain⟨rfl⟩:=H1;rw[Qp];simp -dsimp +contextual (maxSteps:=100000000) only[↓evA,eZ,simprocAttr,func20,f20,QsJ,yH,Xe,Bd,RD]
 try simp only[Zy,eY]
 all_goals rfl
theorem T3(a2xNo a2xNow o){R1 a R2 a2xFinds R3 a2xSecrets R4 a2xSlots R5 a2xClaims R6 a2xTrials R7 a2xChain R8 a2xBook}[H1:EncR QJ R1 a][H2:EncL Q4 R2 a2xFinds][H3:EncL Vk R3 a2xSecrets][H4:EncL VD R4 a2xSlots][H5:EncL Qz R5 a2xClaims][H6:EncL VC R6 a2xTrials][H7:EncL Vr R7 a2xChain][H8:EncL VL R8 a2xBook]:CM T (n+4) 22 [some (Ent.lst 8 R2),some (Ent.lst 3 R3),some (Ent.lst 3 R4),some (Ent.lst 5 R5),some (Ent.lst 4 R6),some (Ent.lst 5 R7),some (Ent.lst 4 R8)] [.agg R1,.agg [.i .i64 a2xNo,.sl 0,.sl 1,.sl 2,.sl 3,.sl 4,.sl 5,.sl 6,.i .i64 a2xNow],.b o]=(Zt a (⟨a2xNo,a2xFinds,a2xSecrets,a2xSlots,a2xClaims,a2xTrials,a2xChain,a2xBook,a2xNow⟩:House) o).map λr=>.tup [.agg (VW r.1),.s r.2]:=by
 rcases H1,H2,H3,H4,H5,H6,H7,H8 with⟨⟨rfl⟩,⟨rfl⟩,⟨rfl⟩,⟨rfl⟩,⟨rfl⟩,⟨rfl⟩,⟨rfl⟩,⟨rfl⟩⟩
 rw[UG];simp -dsimp +contextual (maxSteps:=100000000) only[↓evA,eZ,simprocAttr,func22,f22,QoT,uR,Xe]
 try simp only[Zt,eY]
 all_goals rfl
theorem Tp(w){R1 a}[H1:EncL QA R1 a]:CP T (n+1) 23 [.s w,.imm 1 R1]=(Xp w a).map λr=>.agg (Mr r):=by
 obtain⟨rfl⟩:=H1;rw[Qp];simp -dsimp +contextual only[↓evA,eZ,Nat.reduceAdd,Nat.reduceMul,Nat.reduceBEq,Nat.reduceLeDiff,Nat.reduceLT,func23,f23,QqW,vz]
 try simp only[Xp,eY]
 all_goals rfl
theorem OA(k){R1 l R2 f}[H1:EncL Q4 R1 l][H2:EncR Q4 R2 f]:LP T (n+1) 131 2 (frm [(0,.imm 8 R1),(3,.ptr 0 0 0),(6,.i .i64 k)]) [some (Ent.box R2)] =
  (run (Bl l f) k).map (λ(zr:Int)=>(XE.exit 0,frm [(0,.imm 8 (l.map Q4)),(3,.ptr 0 0 0),(6,.i .i64 zr)],[some (Ent.box (Q4 f))])):=by
 rcases H1,H2 with⟨⟨rfl⟩,⟨rfl⟩⟩
 rw[Qw];simp -dsimp only[↓evA,evB,Qt,func131,f131,QaB,dn,TP,TZ,simprocAttr];apply QB k;intro k;simp -dsimp +contextual only[↓evA,eZ,simprocAttr]
 try simp only[Bl,eY]
 try simp only[List.contains_nil,Qi,Bool.and_true,Vx,List.length_append,List.length_cons,List.length_nil,Nat.zero_add,Vn,VJ]
 all_goals rfl
theorem W4{R1 l R2 f}[H1:EncL Q4 R1 l][H2:EncR Q4 R2 f]:CP T (n+6) 131 [.imm 8 R1,.agg R2]=(Es l f).map λr=>.tup [.own 8 (r.1.map Q4),.b r.2]:=by
 rcases H1,H2 with⟨⟨rfl⟩,⟨rfl⟩⟩
 rw[Qp];simp -dsimp +contextual only[↓evA,eZ,simprocAttr,func131,f131,QaB,dn,GG,OA]
 try simp only[Es,eY]
 try simp only[List.contains_nil,Qi,Bool.and_true,Vx,List.length_append,List.length_cons,List.length_nil,Nat.zero_add,Vn,VJ]
 all_goals first|rfl|(simp +contextual only[evN]<;>rfl)
theorem M1(k){R1 l R2 a}[H1:EncL VR R1 l][H2:EncR VR R2 a]:LP T (n+1) 132 2 (frm [(0,.imm 3 R1),(3,.ptr 0 0 0),(6,.i .i64 k)]) [some (Ent.box R2)] =
  (run (ZY l a) k).map (λ(zr:Int)=>(XE.exit 0,frm [(0,.imm 3 (l.map VR)),(3,.ptr 0 0 0),(6,.i .i64 zr)],[some (Ent.box (VR a))])):=by
 rcases H1,H2 with⟨⟨rfl⟩,⟨rfl⟩⟩
 rw[Qw];simp -dsimp only[↓evA,evB,Qt,func132,f132,zX,gk,TP,TZ,simprocAttr];apply QB k;intro k;simp -dsimp +contextual only[↓evA,eZ,simprocAttr]
 try simp only[ZY,eY]
 try simp only[List.contains_nil,Qi,Bool.and_true,Vx,List.length_append,List.length_cons,List.length_nil,Nat.zero_add,Vn,VJ]
 all_goals rfl
theorem Ss{R1 l R2 a}[H1:EncL VR R1 l][H2:EncR VR R2 a]:CP T (n+6) 132 [.imm 3 R1,.agg R2]=(B8 l a).map λr=>.tup [.own 3 (r.1.map Vk),.b r.2]:=by
 rcases H1,H2 with⟨⟨rfl⟩,⟨rfl⟩⟩
 rw[Qp];simp -dsimp +contextual only[↓evA,eZ,simprocAttr,func132,f132,zX,gk,Ln,HP,M1]
 try simp only[B8,eY]
 try simp only[List.contains_nil,Qi,Bool.and_true,Vx,List.length_append,List.length_cons,List.length_nil,Nat.zero_add,Vn,VJ]
 all_goals first|rfl|(simp +contextual only[evN]<;>rfl)
theorem IZ(s k i){R1 l}[H1:EncL VD R1 l]:LP T (n+1) 219 3 (frm [(0,.imm 3 R1),(1,.i .i64 s),(5,.i .i64 k),(6,.i .i64 i)]) [] =
  (run (Vv l s) (k,i)).map (λ(zr:Int)=>(XE.exit 0,frm [(0,.imm 3 (l.map VD)),(5,.i .i64 zr)],[])):=by
 obtain⟨rfl⟩:=H1;rw[Qw];simp -dsimp only[↓evA,evB,Qt,func219,f219,QaV,fM,TP,TZ,simprocAttr];apply QO k i;intro k i;simp -dsimp +contextual only[↓evA,eZ,simprocAttr]
 try simp only[Vv,eY]
 all_goals rfl
theorem MD(s){R1 l}[H1:EncL VD R1 l]:CP T (n+2) 219 [.imm 3 R1,.i .i64 s]=(BL l s).map λr=>.i .i64 r:=by
 obtain⟨rfl⟩:=H1;rw[Qp];simp -dsimp +contextual only[↓evA,eZ,simprocAttr,func219,f219,QaV,fM,IZ]
 try simp only[BL,eY]
 all_goals rfl
theorem Pj(s i){R1 a R2 o}[H1:EncR ER R1 a][H2:EncL VD R2 o]:LP T (n+1) 133 6 (frm [(3,.ptr 0 0 0),(6,.sl 1),(7,.i .i64 s),(8,.i .i64 i)]) [some (Ent.box R1),some (Ent.lst 3 R2)] =
  (run (X9 a s) (o,i)).map (λ(zr:(List Slot))=>(XE.exit 0,frm [(6,.sl 0)],[some (Ent.lst 3 (zr.map VD))])):=by
 rcases H1,H2 with⟨⟨rfl⟩,⟨rfl⟩⟩
 rw[Qw];simp -dsimp only[↓evA,evB,Qt,func133,f133,QaF,fm,TP,TZ,simprocAttr];apply QO o i;intro o i;simp -dsimp +contextual only[↓evA,eZ,simprocAttr]
 try simp only[X9,eY]
 all_goals rfl
theorem T2{R1 l R2 a}[H1:EncL VD R1 l][H2:EncR ER R2 a]:CP T (n+4) 133 [.imm 3 R1,.agg R2]=(EG l a).map λr=>.tup [.own 3 (r.1.map VD),.b r.2]:=by
 rcases H1,H2 with⟨⟨rfl⟩,⟨rfl⟩⟩
 rw[Qp];simp -dsimp +contextual only[↓evA,eZ,simprocAttr,func133,f133,QaF,fm,MD,GN,Hj,E8,Pj]
 try simp only[EG,eY]
 all_goals first|rfl|(simp +contextual only[evN]<;>rfl)
theorem Li{R1 l R2 a}[H1:EncL Vr R1 l][H2:EncR Vr R2 a]:CP T (n+8) 134 [.imm 5 R1,.agg R2]=(EH l a).map λr=>.tup [.own 5 (r.1.map Vr),.b r.2]:=by
 rcases H1,H2 with⟨⟨rfl⟩,⟨rfl⟩⟩
 rw[Qp];simp -dsimp +contextual only[↓evA,eZ,simprocAttr,func134,f134,QlB,kE,KD,Ha]
 try simp only[EH,eY]
 try simp only[List.contains_nil,Qi,Bool.and_true,Vx,List.length_append,List.length_cons,List.length_nil,Nat.zero_add,Vn,VJ]
 all_goals first|rfl|(simp +contextual only[evN]<;>rfl)
theorem A8(oxNo oxNow o2){R1 a R2 oxFinds R3 oxSecrets R4 oxSlots R5 oxClaims R6 oxTrials R7 oxChain R8 oxBook}[H1:EncR QJ R1 a][H2:EncL Q4 R2 oxFinds][H3:EncL Vk R3 oxSecrets][H4:EncL VD R4 oxSlots][H5:EncL Qz R5 oxClaims][H6:EncL VC R6 oxTrials][H7:EncL Vr R7 oxChain][H8:EncL VL R8 oxBook]:CM T (n+12) 135 [some (Ent.lst 8 R2),some (Ent.lst 3 R3),some (Ent.lst 3 R4),some (Ent.lst 5 R5),some (Ent.lst 4 R6),some (Ent.lst 5 R7),some (Ent.lst 4 R8)] [.agg R1,.agg [.i .i64 oxNo,.sl 0,.sl 1,.sl 2,.sl 3,.sl 4,.sl 5,.sl 6,.i .i64 oxNow],.b o2]=(QL a (⟨oxNo,oxFinds,oxSecrets,oxSlots,oxClaims,oxTrials,oxChain,oxBook,oxNow⟩:House) o2).map λr=>.tup [.agg (VW r.1),.b r.2]:=by
 rcases H1,H2,H3,H4,H5,H6,H7,H8 with⟨⟨rfl⟩,⟨rfl⟩,⟨rfl⟩,⟨rfl⟩,⟨rfl⟩,⟨rfl⟩,⟨rfl⟩,⟨rfl⟩⟩
 rw[UG];simp -dsimp +contextual (maxSteps:=100000000) only[↓evA,eZ,simprocAttr,func135,f135,Qgr,lm,Bd,Xe]
 try simp only[QL,eY]
 all_goals rfl
theorem S1(s){R1 a R2 f R3 m}[H1:EncR QJ R1 a][H2:EncR Q4 R2 f][H3:EncL X5 R3 m]:CP T (n+13) 50 [.agg R1,.agg R2,.imm 2 R3,.i .i64 s]=(BV a f m s).map λr=>.tup [.agg (VW r.1),.b r.2]:=by
 rcases H1,H2,H3 with⟨⟨rfl⟩,⟨rfl⟩,⟨rfl⟩⟩
 rw[Qp];simp -dsimp +contextual (maxSteps:=100000000) only[↓evA,eZ,simprocAttr,func50,f50,Qs7,uL,srt,Xe,W4,Ss,T2,Li,A8]
 try simp only[BV,eY]
 all_goals rfl
theorem Od(k b i){R1 l R2 a}[H1:EncL Qz R1 l][H2:EncR Qz R2 a]:LP T (n+1) 136 4 (frm [(0,.imm 5 R1),(3,.ptr 0 0 0),(6,.i .i64 k),(7,.b b),(8,.i .i64 i)]) [some (Ent.box R2)] =
  (run (Zb l a) (k,b,i)).map (λ(zr:Int×Bool)=>(XE.exit 0,frm [(0,.imm 5 (l.map Qz)),(3,.ptr 0 0 0),(6,.i .i64 zr.1),(7,.b zr.2)],[some (Ent.box (Qz a))])):=by
 rcases H1,H2 with⟨⟨rfl⟩,⟨rfl⟩⟩
 rw[Qw];simp -dsimp only[↓evA,evB,Qt,func136,f136,QaQ,dL,TP,TZ,simprocAttr];apply E7 k b i;intro k b i;simp -dsimp +contextual only[↓evA,eZ,simprocAttr]
 try simp only[Zb,eY]
 try simp only[List.contains_nil,Qi,Bool.and_true,Vx,List.length_append,List.length_cons,List.length_nil,Nat.zero_add,Vn,VJ]
 all_goals rfl
theorem Tl{R1 l R2 a}[H1:EncL Qz R1 l][H2:EncR Qz R2 a]:CP T (n+4) 136 [.imm 5 R1,.agg R2]=(DF l a).map λr=>.tup [.own 5 (r.1.map Qz),.b r.2]:=by
 rcases H1,H2 with⟨⟨rfl⟩,⟨rfl⟩⟩
 rw[Qp];simp -dsimp +contextual only[↓evA,eZ,simprocAttr,func136,f136,QaQ,dL,Gj,Od]
 try simp only[DF,eY]
 try simp only[List.contains_nil,Qi,Bool.and_true,Vx,List.length_append,List.length_cons,List.length_nil,Nat.zero_add,Vn,VJ]
 all_goals first|rfl|(simp +contextual only[evN]<;>rfl)
theorem MZ(i a oxNo oxNow o2 k){R1 a2 R2 oxFinds R3 oxSecrets R4 oxSlots R5 oxClaims R6 oxTrials R7 oxChain R8 oxBook}[H1:EncR QJ R1 a2][H2:EncL Q4 R2 oxFinds][H3:EncL Vk R3 oxSecrets][H4:EncL VD R4 oxSlots][H5:EncL Qz R5 oxClaims][H6:EncL VC R6 oxTrials][H7:EncL Vr R7 oxChain][H8:EncL VL R8 oxBook]:LP T (n+1) 51 5 (frm [(1,.i .i64 i),(3,.i .i64 a),(4,.ptr 0 0 0),(8,.ptr 1 0 0),(10,.ptr 2 0 0),(12,.b o2),(13,.i .i64 k)]) [some (Ent.box R1),some (Ent.box [.i .i64 0,.nil,.nil,.nil,.nil,.nil,.nil,.nil,.i .i64 0]),some (Ent.box [.i .i64 oxNo,.sl 3,.sl 4,.sl 5,.sl 6,.sl 7,.sl 8,.sl 9,.i .i64 oxNow]),some (Ent.lst 8 R2),some (Ent.lst 3 R3),some (Ent.lst 3 R4),some (Ent.lst 5 R5),some (Ent.lst 4 R6),some (Ent.lst 5 R7),some (Ent.lst 4 R8)] =
  (run (ZZ i a a2 (⟨oxNo,oxFinds,oxSecrets,oxSlots,oxClaims,oxTrials,oxChain,oxBook,oxNow⟩:House) o2) k).map (λ(zr:Int)=>(XE.exit 0,frm [(1,.i .i64 i),(3,.i .i64 a),(4,.ptr 0 0 0),(8,.ptr 1 0 0),(10,.ptr 2 0 0),(12,.b o2),(13,.i .i64 zr)],[some (Ent.box (QJ a2)),some (Ent.box [.i .i64 0,.nil,.nil,.nil,.nil,.nil,.nil,.nil,.i .i64 0]),some (Ent.box [.i .i64 oxNo,.sl 3,.sl 4,.sl 5,.sl 6,.sl 7,.sl 8,.sl 9,.i .i64 oxNow]),some (Ent.lst 8 (oxFinds.map Q4)),some (Ent.lst 3 (oxSecrets.map Vk)),some (Ent.lst 3 (oxSlots.map VD)),some (Ent.lst 5 (oxClaims.map Qz)),some (Ent.lst 4 (oxTrials.map VC)),some (Ent.lst 5 (oxChain.map Vr)),some (Ent.lst 4 (oxBook.map VL))])):=by
 rcases H1,H2,H3,H4,H5,H6,H7,H8 with⟨⟨rfl⟩,⟨rfl⟩,⟨rfl⟩,⟨rfl⟩,⟨rfl⟩,⟨rfl⟩,⟨rfl⟩,⟨rfl⟩⟩
 rw[Qw];simp -dsimp only[↓evA,evB,Qt,func51,f51,Qi9,sJ,TP,TZ,simprocAttr];apply QB k;intro k;simp -dsimp +contextual (maxSteps:=100000000) only[↓evA,eZ,simprocAttr,srt]
 try simp only[ZZ,eY]
 try simp only[List.contains_nil,Qi,Bool.and_true,Vx,List.length_append,List.length_cons,List.length_nil,Nat.zero_add,Vn,VJ]
 all_goals rfl
theorem Rr(i w a2){R1 a}[H1:EncR QJ R1 a]:CP T (n+13) 51 [.agg R1,.i .i64 i,.i .i64 w,.i .i64 a2]=(ZG a i w a2).map λr=>.tup [.agg (VW r.1),.b r.2]:=by
 obtain⟨rfl⟩:=H1;rw[Qp];simp -dsimp +contextual (maxSteps:=100000000) only[↓evA,eZ,simprocAttr,func51,f51,Qi9,sJ,srt,Xe,Tl,E8,A8,MZ]
 try simp only[ZG,eY]
 try simp only[List.contains_nil,Qi,Bool.and_true,Vx,List.length_append,List.length_cons,List.length_nil,Nat.zero_add,Vn,VJ]
 all_goals rfl
theorem M5(i i2){R1 l}[H1:EncL Qz R1 l]:LP T (n+1) 63 2 (frm [(0,.imm 5 R1),(1,.i .i64 i),(5,.i .i64 i2)]) [] =
  Xy (run (ZR l i) i2) (λ(zr:Int)=>(XE.ret,frm [(4,.i .i64 zr)],[])) (λ(zr:Unit)=>(XE.exit 0,frm [],[])):=by
 obtain⟨rfl⟩:=H1;rw[Qw];simp -dsimp only[↓evA,evB,Qt,func63,f63,QmN,tU,TP,TZ,simprocAttr];apply QB i2;intro i2;simp -dsimp +contextual only[↓evA,eZ,simprocAttr]
 try simp only[ZR,eY]
 all_goals rfl
theorem EA(i){R1 l}[H1:EncL Qz R1 l]:CP T (n+2) 63 [.imm 5 R1,.i .i64 i]=(JO l i).map λr=>.i .i64 r:=by
 obtain⟨rfl⟩:=H1;rw[Qp];simp -dsimp +contextual only[↓evA,eZ,simprocAttr,func63,f63,QmN,tU,M5]
 try simp only[JO,eY]
 all_goals rfl
theorem Nz(c a){R1 l}[H1:EncL X5 R1 l]:CP T (n+5) 152 [.imm 2 R1,.i .i64 c,.i .i64 a]=(Ze l c a).map λr=>.i .i64 r:=by
 obtain⟨rfl⟩:=H1;rw[Qp];simp -dsimp +contextual only[↓evA,eZ,simprocAttr,func152,f152,Qkc,jL,GF,Q0,SH,Wo]
 try simp only[Ze,eY]
 all_goals rfl
theorem GS{R1 l R2 a}[H1:EncL X5 R1 l][H2:EncR VC R2 a]:CP T (n+6) 64 [.imm 2 R1,.agg R2]=(Xv l a).map λr=>.i .i64 r:=by
 rcases H1,H2 with⟨⟨rfl⟩,⟨rfl⟩⟩
 rw[Qp];simp -dsimp +contextual only[↓evA,eZ,simprocAttr,func64,f64,Qq7,vJ,FP,Nz]
 try simp only[Xv,eY]
 all_goals rfl
theorem Og(q i){R1 l}[H1:EncL X5 R1 l]:LP T (n+1) 220 2 (frm [(0,.imm 2 R1),(1,.i .i64 q),(5,.i .i64 i)]) [] =
  Xy (run (AU l q) i) (λ(zr:Int)=>(XE.ret,frm [(4,.i .i64 zr)],[])) (λ(zr:Unit)=>(XE.exit 0,frm [],[])):=by
 obtain⟨rfl⟩:=H1;rw[Qw];simp -dsimp only[↓evA,evB,Qt,func220,f220,Qab,da,TP,TZ,simprocAttr];apply QB i;intro i;simp -dsimp +contextual only[↓evA,eZ,simprocAttr]
 try simp only[AU,eY]
 all_goals rfl
theorem Ti(q){R1 l}[H1:EncL X5 R1 l]:CP T (n+2) 220 [.imm 2 R1,.i .i64 q]=(E9 l q).map λr=>.i .i64 r:=by
 obtain⟨rfl⟩:=H1;rw[Qp];simp -dsimp +contextual only[↓evA,eZ,simprocAttr,func220,f220,Qab,da,Og]
 try simp only[E9,eY]
 all_goals rfl
theorem Pc(a2){R1 l R2 a}[H1:EncL X5 R1 l][H2:EncR VC R2 a]:CP T (n+7) 138 [.imm 2 R1,.agg R2,.i .i64 a2]=(Dd l a a2).map λr=>.tup [.agg (VC r.1),.b r.2]:=by
 rcases H1,H2 with⟨⟨rfl⟩,⟨rfl⟩⟩
 rw[Qp];simp -dsimp +contextual only[↓evA,eZ,simprocAttr,func138,f138,QlR,mf,GS,Ti]
 try simp only[Dd,eY]
 all_goals rfl
theorem PA(c a2){R1 a}[H1:EncR QJ R1 a]:CP T (n+13) 52 [.agg R1,.i .i64 c,.i .i64 a2]=(Ag a c a2).map λr=>.tup [.agg (VW r.1),.b r.2]:=by
 obtain⟨rfl⟩:=H1;rw[Qp];simp -dsimp +contextual (maxSteps:=100000000) only[↓evA,eZ,simprocAttr,func52,f52,Qtb,yU,srt,Xe,EA,Bd,Hb,Pc,FP,A8]
 try simp only[Ag,eY]
 all_goals rfl
theorem KV(a k i){R1 l}[H1:EncL Qz R1 l]:LP T (n+1) 140 3 (frm [(0,.imm 5 R1),(1,.i .i64 a),(5,.i .i64 k),(6,.i .i64 i)]) [] =
  (run (VF l a) (k,i)).map (λ(zr:Int)=>(XE.exit 0,frm [(0,.imm 5 (l.map Qz)),(5,.i .i64 zr)],[])):=by
 obtain⟨rfl⟩:=H1;rw[Qw];simp -dsimp only[↓evA,evB,Qt,func140,f140,QaG,dF,TP,TZ,simprocAttr];apply QO k i;intro k i;simp -dsimp +contextual only[↓evA,eZ,simprocAttr]
 try simp only[VF,eY]
 all_goals rfl
theorem Ho(a){R1 l}[H1:EncL Qz R1 l]:CP T (n+2) 140 [.imm 5 R1,.i .i64 a]=(Zk l a).map λr=>.i .i64 r:=by
 obtain⟨rfl⟩:=H1;rw[Qp];simp -dsimp +contextual only[↓evA,eZ,simprocAttr,func140,f140,QaG,dF,KV]
 try simp only[Zk,eY]
 all_goals rfl
theorem OD(s i){R1 o}[H1:EncL VD R1 o]:LP T (n+1) 222 6 (frm [(6,.sl 0),(7,.i .i64 s),(8,.i .i64 i)]) [some (Ent.lst 3 R1)] =
  (run (Jb s) (o,i)).map (λ(zr:(List Slot))=>(XE.exit 0,frm [(6,.sl 0)],[some (Ent.lst 3 (zr.map VD))])):=by
 obtain⟨rfl⟩:=H1;rw[Qw];simp -dsimp only[↓evA,evB,Qt,func222,f222,zY,eM,TP,TZ,simprocAttr];apply QO o i;intro o i;simp -dsimp +contextual only[↓evA,eZ,simprocAttr]
 try simp only[Jb,eY]
 all_goals rfl
theorem UU(a){R1 l}[H1:EncL VD R1 l]:CP T (n+4) 222 [.imm 3 R1,.i .i64 a]=(El l a).map λr=>.tup [.own 3 (r.1.map VD),.b r.2]:=by
 obtain⟨rfl⟩:=H1;rw[Qp];simp -dsimp +contextual only[↓evA,eZ,simprocAttr,func222,f222,zY,eM,E8,GN,OD]
 try simp only[El,eY]
 all_goals first|rfl|(simp +contextual only[evN]<;>rfl)
theorem Ic(a2 a3 w){R1 a}[H1:EncR QJ R1 a]:CP T (n+9) 141 [.agg R1,.i .i64 a2,.i .i64 a3,.i .i64 w]=(BJ a a2 a3 w).map λr=>.tup [.agg (VW r.1),.b r.2]:=by
 obtain⟨rfl⟩:=H1;rw[Qp];simp -dsimp +contextual (maxSteps:=100000000) only[↓evA,eZ,simprocAttr,func141,f141,Qh3,me,Xe,UU,Li]
 try simp only[BJ,eY]
 all_goals rfl
theorem Tr(i s){R1 l}[H1:EncL Qz R1 l]:CP T (n+4) 142 [.imm 5 R1,.i .i64 i,.i .i64 s]=(EX l i s).map λr=>.tup [.own 5 (r.1.map Qz),.b r.2]:=by
 obtain⟨rfl⟩:=H1;rw[Qp];simp -dsimp +contextual only[↓evA,eZ,simprocAttr,func142,f142,Qgm,k6,EA,Gj]
 try simp only[EX,eY]
 all_goals first|rfl|(simp +contextual only[evN]<;>rfl)
theorem Yw(d){R1 a}[H1:EncR ER R1 a]:CP T (n+3) 144 [.agg R1,.i .i64 d]=(Gx a d).map λr=>.i .i64 r:=by
 obtain⟨rfl⟩:=H1;rw[Qp];simp -dsimp +contextual only[↓evA,eZ,simprocAttr,func144,f144,Qex,j7,Hj,Q0,UX]
 try simp only[Gx,eY]
 all_goals rfl
theorem Tt{R1 l R2 a}[H1:EncL VL R1 l][H2:EncR VL R2 a]:CP T (n+4) 223 [.imm 4 R1,.agg R2]=(DH l a).map λr=>.tup [.own 4 (r.1.map VL),.b r.2]:=by
 rcases H1,H2 with⟨⟨rfl⟩,⟨rfl⟩⟩
 rw[Qp];simp -dsimp +contextual only[↓evA,eZ,simprocAttr,func223,f223,QfE,mL,FZ]
 try simp only[DH,eY]
 try simp only[List.contains_nil,Qi,Bool.and_true,Vx,List.length_append,List.length_cons,List.length_nil,Nat.zero_add,Vn,VJ]
 all_goals first|rfl|(simp +contextual only[evN]<;>rfl)
theorem Nf(axNo axNow f a2 c){R1 axFinds R2 axSecrets R3 axSlots R4 axClaims R5 axTrials R6 axChain R7 axBook}[H1:EncL Q4 R1 axFinds][H2:EncL Vk R2 axSecrets][H3:EncL VD R3 axSlots][H4:EncL Qz R4 axClaims][H5:EncL VC R5 axTrials][H6:EncL Vr R6 axChain][H7:EncL VL R7 axBook]:CM T (n+5) 143 [some (Ent.lst 8 R1),some (Ent.lst 3 R2),some (Ent.lst 3 R3),some (Ent.lst 5 R4),some (Ent.lst 4 R5),some (Ent.lst 5 R6),some (Ent.lst 4 R7)] [.agg [.i .i64 axNo,.sl 0,.sl 1,.sl 2,.sl 3,.sl 4,.sl 5,.sl 6,.i .i64 axNow],.i .i64 f,.i .i64 a2,.i .i64 c]=(BM (⟨axNo,axFinds,axSecrets,axSlots,axClaims,axTrials,axChain,axBook,axNow⟩:House) f a2 c).map λr=>.tup [.agg (VW r.1),.b r.2]:=by
 rcases H1,H2,H3,H4,H5,H6,H7 with⟨⟨rfl⟩,⟨rfl⟩,⟨rfl⟩,⟨rfl⟩,⟨rfl⟩,⟨rfl⟩,⟨rfl⟩⟩
 rw[UG];simp -dsimp +contextual (maxSteps:=100000000) only[↓evA,eZ,simprocAttr,func143,f143,Qjo,mS,Tt]
 try simp only[BM,eY]
 all_goals rfl
theorem Sg(a2){R1 a}[H1:EncR QJ R1 a]:CP T (n+13) 53 [.agg R1,.i .i64 a2]=(Ba a a2).map λr=>.tup [.agg (VW r.1),.b r.2]:=by
 obtain⟨rfl⟩:=H1;rw[Qp];simp -dsimp +contextual (maxSteps:=100000000) only[↓evA,eZ,simprocAttr,func53,f53,Qog,vC,srt,Ho,XN,Bd,Xe,EA,Ic,Tr,Yw,Nf,A8]
 try simp only[Ba,eY]
 try simp only[List.contains_nil,Qi,Bool.and_true,Vx,List.length_append,List.length_cons,List.length_nil,Nat.zero_add,Vn,VJ]
 all_goals rfl
theorem Pm(i k){R1 l}[H1:EncL Jp R1 l]:LP T (n+1) 225 7 (frm [(0,.imm 3 R1),(3,.i .i64 i),(4,.i .i64 k)]) [] =
  Xy (run (Af l i) k) (λ(zr:Bool)=>(XE.ret,frm [(2,.b zr)],[])) (λ(zr:Unit)=>(XE.exit 2,frm [(0,.imm 3 (l.map Jp)),(3,.i .i64 i)],[])):=by
 obtain⟨rfl⟩:=H1;rw[Qw];simp -dsimp only[↓evA,evB,Qt,func225,f225,uy,aB,TP,TZ,simprocAttr];apply QB k;intro k;simp -dsimp +contextual only[↓evA,eZ,simprocAttr]
 try simp only[Af,eY]
 all_goals rfl
theorem Oq(i){R1 l}[H1:EncL Jp R1 l]:LP T (n+2) 225 2 (frm [(0,.imm 3 R1),(3,.i .i64 i)]) [] =
  Xy (run (Ab l) i) (λ(zr:Bool)=>(XE.ret,frm [(2,.b zr)],[])) (λ(zr:Unit)=>(XE.exit 0,frm [(0,.imm 3 (l.map Jp))],[])):=by
 obtain⟨rfl⟩:=H1;rw[Qw];simp -dsimp only[↓evA,evB,Qt,func225,f225,uy,aB,TP,TZ,simprocAttr];apply QB i;intro i;simp -dsimp +contextual only[↓evA,eZ,simprocAttr,Q0,Pm]
 try simp only[Ab,eY]
 all_goals rfl
theorem UZ{R1 l}[H1:EncL Jp R1 l]:CP T (n+3) 225 [.imm 3 R1]=(G1 l).map λr=>.b r:=by
 obtain⟨rfl⟩:=H1;rw[Qp];simp -dsimp +contextual only[↓evA,eZ,simprocAttr,func225,f225,uy,aB,Oq]
 try simp only[G1,eY]
 all_goals rfl
theorem MS(i k){R1 l R2 o}[H1:EncL Jp R1 l][H2:EncL Jp R2 o]:LP T (n+1) 226 6 (frm [(0,.imm 3 R1),(3,.sl 0),(4,.i .i64 i),(5,.i .i64 k)]) [some (Ent.lst 3 R2)] =
  (run (ZP l o i) k).map (λ(zr:Int)=>(XE.exit 2,frm [(0,.imm 3 (l.map Jp)),(3,.sl 0),(4,.i .i64 i),(5,.i .i64 zr)],[some (Ent.lst 3 (o.map Jp))])):=by
 rcases H1,H2 with⟨⟨rfl⟩,⟨rfl⟩⟩
 rw[Qw];simp -dsimp only[↓evA,evB,Qt,func226,f226,uh,YT,TP,TZ,simprocAttr];apply QB k;intro k;simp -dsimp +contextual only[↓evA,eZ,simprocAttr]
 try simp only[ZP,eY]
 try simp only[List.contains_nil,Qi,Bool.and_true,Vx,List.length_append,List.length_cons,List.length_nil,Nat.zero_add,Vn,VJ]
 all_goals rfl
theorem ML(i){R1 l R2 o}[H1:EncL Jp R1 l][H2:EncL Jp R2 o]:LP T (n+2) 226 3 (frm [(0,.imm 3 R1),(3,.sl 0),(4,.i .i64 i)]) [some (Ent.lst 3 R2)] =
  (run (JJ l) (o,i)).map (λ(zr:(List Bid))=>(XE.exit 0,frm [(3,.sl 0)],[some (Ent.lst 3 (zr.map Jp))])):=by
 rcases H1,H2 with⟨⟨rfl⟩,⟨rfl⟩⟩
 rw[Qw];simp -dsimp only[↓evA,evB,Qt,func226,f226,uh,YT,TP,TZ,simprocAttr];apply QO o i;intro o i;simp -dsimp +contextual only[↓evA,eZ,simprocAttr,MS]
 try simp only[JJ,eY]
 try simp only[List.contains_nil,Qi,Bool.and_true,Vx,List.length_append,List.length_cons,List.length_nil,Nat.zero_add,Vn,VJ]
 all_goals rfl
theorem RW{R1 l}[H1:EncL Jp R1 l]:CP T (n+3) 226 [.imm 3 R1]=(Eh l).map λr=>.own 3 (r.map Jp):=by
 obtain⟨rfl⟩:=H1;rw[Qp];simp -dsimp +contextual only[↓evA,eZ,simprocAttr,func226,f226,uh,YT,ML]
 try simp only[Eh,eY]
 try simp only[List.contains_nil,Qi,Bool.and_true,Vx,List.length_append,List.length_cons,List.length_nil,Nat.zero_add,Vn,VJ]
 all_goals first|rfl|(simp +contextual only[evN]<;>rfl)
theorem Yg{R1 l}[H1:EncL Jp R1 l]:CP T (n+4) 145 [.imm 3 R1]=(Gv l).map λr=>.tup [.i .i64 r.1,.i .i64 r.2]:=by
 obtain⟨rfl⟩:=H1;rw[Qp];simp -dsimp +contextual only[↓evA,eZ,Nat.reduceAdd,Nat.reduceMul,Nat.reduceBEq,Nat.reduceLeDiff,Nat.reduceLT,func145,f145,Qh2,jG,UZ,RW]
 try simp only[Gv,eY]
 all_goals rfl
theorem Tj(k):CP T (n+2) 284 [.i .i64 k]=(EY k).map λr=>.i .i64 r:=by
 rw[Qp];simp -dsimp +contextual only[↓evA,eZ,simprocAttr,func284,f284,Qly,jA,Q0]
 try simp only[EY,eY]
 all_goals rfl
theorem UR{R1 f}[H1:EncR Q4 R1 f]:CP T (n+4) 228 [.agg R1]=(FU f).map λr=>.i .i64 r:=by
 obtain⟨rfl⟩:=H1;rw[Qp];simp -dsimp +contextual only[↓evA,eZ,simprocAttr,func228,f228,Qg4,lD,Gm,Tj]
 try simp only[FU,eY]
 all_goals rfl
theorem I5(a){R1 f}[H1:EncR Q4 R1 f]:CP T (n+5) 147 [.agg R1,.i .i64 a]=(Zo f a).map λr=>.b r:=by
 obtain⟨rfl⟩:=H1;rw[Qp];simp -dsimp +contextual only[↓evA,eZ,simprocAttr,func147,f147,Qfd,kJ,Gm,UR]
 try simp only[Zo,eY]
 all_goals rfl
theorem Ro(a i){R1 l R2 f}[H1:EncL Qz R1 l][H2:EncR Q4 R2 f]:LP T (n+1) 69 4 (frm [(1,.imm 5 R1),(2,.i .i64 a),(3,.ptr 0 0 0),(7,.i .i64 i)]) [some (Ent.box R2)] =
  Xy (run (Cq l a f) i) (λ(zr:Int)=>(XE.ret,frm [(6,.i .i64 zr)],[])) (λ(zr:Unit)=>(XE.exit 0,frm [(2,.i .i64 a),(3,.ptr 0 0 0)],[some (Ent.box (Q4 f))])):=by
 rcases H1,H2 with⟨⟨rfl⟩,⟨rfl⟩⟩
 rw[Qw];simp -dsimp only[↓evA,evB,Qt,func69,f69,Qnc,qB,TP,TZ,simprocAttr];apply QB i;intro i;simp -dsimp +contextual only[↓evA,eZ,simprocAttr]
 try simp only[Cq,eY]
 all_goals rfl
theorem If(a){R1 f R2 l}[H1:EncR Q4 R1 f][H2:EncL Qz R2 l]:CP T (n+6) 69 [.agg R1,.imm 5 R2,.i .i64 a]=(CQ f l a).map λr=>.i .i64 r:=by
 rcases H1,H2 with⟨⟨rfl⟩,⟨rfl⟩⟩
 rw[Qp];simp -dsimp +contextual only[↓evA,eZ,simprocAttr,func69,f69,Qnc,qB,Ho,I5,Ro]
 try simp only[CQ,eY]
 all_goals rfl
theorem Ly(c s i){R1 p R2 o}[H1:EncL QA R1 p][H2:EncL QA R2 o]:LP T (n+2) 227 4 (frm [(0,.i .i64 c),(1,.imm 1 R1),(5,.sl 0),(6,.i .i64 s),(7,.i .i64 i)]) [some (Ent.lst 1 R2)] =
  Xy (run (Za c p o) (s,i)) (λ(zr:(List Int))=>(XE.ret,frm [(4,.sl 0)],[some (Ent.lst 1 (zr.map QA))])) (λ(zr:Int)=>(XE.exit 0,frm [(0,.i .i64 c),(1,.imm 1 (p.map QA)),(5,.sl 0),(6,.i .i64 zr)],[some (Ent.lst 1 (o.map QA))])):=by
 rcases H1,H2 with⟨⟨rfl⟩,⟨rfl⟩⟩
 rw[Qw];simp -dsimp only[↓evA,evB,Qt,func227,f227,l7,TY,TP,TZ,simprocAttr];apply QO s i;intro s i;simp -dsimp +contextual only[↓evA,eZ,simprocAttr,Q0]
 try simp only[Za,eY]
 all_goals rfl
theorem KO(c s l i){R1 p R2 o}[H1:EncL QA R1 p][H2:EncL QA R2 o]:LP T (n+1) 227 13 (frm [(0,.i .i64 c),(1,.imm 1 R1),(5,.sl 0),(6,.i .i64 s),(8,.i .i64 l),(9,.i .i64 i)]) [some (Ent.lst 1 R2)] =
  (run (XP c p s) (o,l,i)).map (λ(zr:(List Int)×Int)=>(XE.exit 2,frm [(5,.sl 0),(8,.i .i64 zr.2)],[some (Ent.lst 1 (zr.1.map QA))])):=by
 rcases H1,H2 with⟨⟨rfl⟩,⟨rfl⟩⟩
 rw[Qw];simp -dsimp only[↓evA,evB,Qt,func227,f227,l7,TY,TP,TZ,simprocAttr];apply E7 o l i;intro o l i;simp -dsimp +contextual only[↓evA,eZ,simprocAttr]
 try simp only[XP,eY]
 all_goals rfl
theorem KX(l i){R1 o}[H1:EncL QA R1 o]:LP T (n+1) 227 18 (frm [(5,.sl 0),(8,.i .i64 l),(10,.i .i64 i)]) [some (Ent.lst 1 R1)] =
  (run (J1 l) (o,i)).map (λ(zr:(List Int))=>(XE.exit 4,frm [(5,.sl 0)],[some (Ent.lst 1 (zr.map QA))])):=by
 obtain⟨rfl⟩:=H1;rw[Qw];simp -dsimp only[↓evA,evB,Qt,func227,f227,l7,TY,TP,TZ,simprocAttr];apply QO o i;intro o i;simp -dsimp +contextual only[↓evA,eZ,simprocAttr]
 try simp only[J1,eY]
 all_goals rfl
theorem PM(c){R1 p}[H1:EncL QA R1 p]:CP T (n+3) 227 [.i .i64 c,.imm 1 R1]=(Do c p).map λr=>.own 1 (r.map QA):=by
 obtain⟨rfl⟩:=H1;rw[Qp];simp -dsimp +contextual only[↓evA,eZ,simprocAttr,func227,f227,l7,TY,Q0,Ly,KO,KX]
 try simp only[Do,eY]
 all_goals first|rfl|(simp +contextual only[evN]<;>rfl)
end Go.Proofs.YtoilkmgiofimjaaGreatDoor
