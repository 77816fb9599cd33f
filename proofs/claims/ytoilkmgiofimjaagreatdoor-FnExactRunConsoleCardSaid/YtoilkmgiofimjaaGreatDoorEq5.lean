import Derived.Test.YtoilkmgiofimjaaGreatDoorEq4
namespace Go.Proofs.YtoilkmgiofimjaaGreatDoor
open Go Go.Proofs Go.Proofs.YtoilkmgiofimjaaGreatDoor.Am Tryz
set_option maxHeartbeats 4000000
set_option linter.unusedVariables false
set_option linter.unusedSimpArgs false
set_option linter.defProp false
set_option maxRecDepth 100000
variable(n:Nat)
theorem PF(a a3 a4){R1 a2}[H1:EncL VL R1 a2]:LP T (n+1) 252 18 (frm [(3,.i .i64 a),(49,.imm 4 R1),(50,.i .i64 a3),(51,.i .i64 a4)]) [] =
  (run (BB a2 a3) (a,a4)).map (λ(zr:Int)=>(XE.exit 6,frm [(3,.i .i64 zr)],[])):=by
 obtain⟨rfl⟩:=H1;rw[Qw];simp -dsimp only[↓evA,evB,Qt,func252,f252,et,SB,TP,TZ,simprocAttr];apply QO a a4;intro a a4;simp -dsimp +contextual only[↓evA,eZ,simprocAttr]
 try simp only[BB,eY]
 all_goals rfl
theorem Yi{R1 a}[H1:EncR QJ R1 a]:CP T (n+2) 252 [.agg R1]=(GD a).map λr=>.i .i64 r:=by
 obtain⟨rfl⟩:=H1;rw[Qp];simp -dsimp +contextual (maxSteps:=100000000) only[↓evA,eZ,simprocAttr,func252,f252,et,SB,Sb,Sv,Ou,PF]
 try simp only[GD,eY]
 all_goals rfl
theorem ZH{R1 a}[H1:EncR QJ R1 a]:CP T (n+11) 171 [.agg R1]=(VH a).map λr=>.b r:=by
 obtain⟨rfl⟩:=H1;rw[Qp];simp -dsimp +contextual (maxSteps:=100000000) only[↓evA,eZ,simprocAttr,func171,f171,Qhx,lK,QV,GO,HJ,GL,Gl,Hh,DV,WQ,Si,Yi]
 try simp only[VH,eY]
 all_goals rfl
theorem Tq(a){R1 s}[H1:EncL VD R1 s]:CP T (n+12) 94 [.i .i64 a,.imm 3 R1]=(DG a s).map λr=>.tup [.agg (VW r.1),.b r.2]:=by
 obtain⟨rfl⟩:=H1;rw[Qp];simp -dsimp +contextual (maxSteps:=100000000) only[↓evA,eZ,simprocAttr,func94,f94,QrZ,yf,B4,ZH]
 try simp only[DG,eY]
 all_goals rfl
theorem PW(a){R1 l R2 f R3 o}[H1:EncL Q4 R1 l][H2:EncR Q4 R2 f][H3:EncL Q4 R3 o]:LP T (n+1) 172 5 (frm [(0,.imm 8 R1),(3,.ptr 0 0 0),(6,.sl 1),(7,.i .i64 a)]) [some (Ent.box R2),some (Ent.lst 8 R3)] =
  (run (Fh l f o) a).map (λ(zr:Int)=>(XE.exit 0,frm [(0,.imm 8 (l.map Q4)),(3,.ptr 0 0 0),(6,.sl 1),(7,.i .i64 zr)],[some (Ent.box (Q4 f)),some (Ent.lst 8 (o.map Q4))])):=by
 rcases H1,H2,H3 with⟨⟨rfl⟩,⟨rfl⟩,⟨rfl⟩⟩
 rw[Qw];simp -dsimp only[↓evA,evB,Qt,func172,f172,QaN,gm,TP,TZ,simprocAttr];apply QB a;intro a;simp -dsimp +contextual only[↓evA,eZ,simprocAttr,srt]
 try simp only[Fh,eY]
 all_goals rfl
theorem W0{R1 l R2 f}[H1:EncL Q4 R1 l][H2:EncR Q4 R2 f]:CP T (n+6) 172 [.imm 8 R1,.agg R2]=(FT l f).map λr=>.tup [.own 8 (r.1.map Q4),.b r.2]:=by
 rcases H1,H2 with⟨⟨rfl⟩,⟨rfl⟩⟩
 rw[Qp];simp -dsimp +contextual only[↓evA,eZ,simprocAttr,func172,f172,QaN,gm,srt,GU,Jq,v7,GO,PW]
 try simp only[FT,eY]
 all_goals first|rfl|(simp +contextual only[evN]<;>rfl)
theorem M0(a2){R1 l R2 a R3 o}[H1:EncL VR R1 l][H2:EncR VR R2 a][H3:EncL Vk R3 o]:LP T (n+1) 173 5 (frm [(0,.imm 3 R1),(3,.ptr 0 0 0),(6,.sl 1),(7,.i .i64 a2)]) [some (Ent.box R2),some (Ent.lst 3 R3)] =
  (run (DX l a o) a2).map (λ(zr:Int)=>(XE.exit 0,frm [(0,.imm 3 (l.map VR)),(3,.ptr 0 0 0),(6,.sl 1),(7,.i .i64 zr)],[some (Ent.box (VR a)),some (Ent.lst 3 (o.map Vk))])):=by
 rcases H1,H2,H3 with⟨⟨rfl⟩,⟨rfl⟩,⟨rfl⟩⟩
 rw[Qw];simp -dsimp only[↓evA,evB,Qt,func173,f173,QaL,fe,TP,TZ,simprocAttr];apply QB a2;intro a2;simp -dsimp +contextual only[↓evA,eZ,simprocAttr,srt]
 try simp only[DX,eY]
 all_goals rfl
theorem RE{R1 l R2 a}[H1:EncL VR R1 l][H2:EncR VR R2 a]:CP T (n+6) 173 [.imm 3 R1,.agg R2]=(Ee l a).map λr=>.tup [.own 3 (r.1.map Vk),.b r.2]:=by
 rcases H1,H2 with⟨⟨rfl⟩,⟨rfl⟩⟩
 rw[Qp];simp -dsimp +contextual only[↓evA,eZ,simprocAttr,func173,f173,QaL,fe,srt,GV,KK,EV,xT,HJ,M0]
 try simp only[Ee,eY]
 all_goals first|rfl|(simp +contextual only[evN]<;>rfl)
theorem O7(s b a2 a3){R1 l R2 a}[H1:EncL VD R1 l][H2:EncL VD R2 a]:LP T (n+1) 255 3 (frm [(0,.imm 3 R1),(1,.i .i64 s),(5,.i .i64 b),(8,.imm 3 R2),(9,.i .i64 a2),(10,.i .i64 a3)]) [] =
  (run (Dp l s a a2) (b,a3)).map (λ(zr:Int)=>(XE.exit 0,frm [(5,.i .i64 zr)],[])):=by
 rcases H1,H2 with⟨⟨rfl⟩,⟨rfl⟩⟩
 rw[Qw];simp -dsimp only[↓evA,evB,Qt,func255,f255,Qak,c7,TP,TZ,simprocAttr];apply QO b a3;intro b a3;simp -dsimp +contextual only[↓evA,eZ,simprocAttr]
 try simp only[Dp,eY]
 all_goals rfl
theorem UM(s){R1 l}[H1:EncL VD R1 l]:CP T (n+2) 255 [.imm 3 R1,.i .i64 s]=(FN l s).map λr=>.i .i64 r:=by
 obtain⟨rfl⟩:=H1;rw[Qp];simp -dsimp +contextual only[↓evA,eZ,simprocAttr,func255,f255,Qak,c7,O7]
 try simp only[FN,eY]
 all_goals rfl
theorem T4{R1 l R2 a}[H1:EncL VD R1 l][H2:EncR ER R2 a]:CP T (n+8) 174 [.imm 3 R1,.agg R2]=(EB l a).map λr=>.tup [.own 3 (r.1.map VD),.b r.2]:=by
 rcases H1,H2 with⟨⟨rfl⟩,⟨rfl⟩⟩
 rw[Qp];simp -dsimp +contextual only[↓evA,eZ,simprocAttr,func174,f174,QlH,lW,B4,UM,GL,Hi,Ah]
 try simp only[EB,eY]
 all_goals first|rfl|(simp +contextual only[evN]<;>rfl)
theorem LJ{R1 l R2 a}[H1:EncL Vr R1 l][H2:EncR Vr R2 a]:CP T (n+9) 175 [.imm 5 R1,.agg R2]=(Ep l a).map λr=>.tup [.own 5 (r.1.map Vr),.b r.2]:=by
 rcases H1,H2 with⟨⟨rfl⟩,⟨rfl⟩⟩
 rw[Qp];simp -dsimp +contextual only[↓evA,eZ,simprocAttr,func175,f175,Qf4,l5,KG,GT,Hh]
 try simp only[Ep,eY]
 try simp only[List.contains_nil,Qi,Bool.and_true,Vx,List.length_append,List.length_cons,List.length_nil,Nat.zero_add,Vn,VJ]
 all_goals first|rfl|(simp +contextual only[evN]<;>rfl)
theorem IY(v a a2){R1 s}[H1:EncL c_b R1 s]:LP T (n+1) 294 2 (frm [(0,.imm 1 R1),(1,.b v),(7,.i .i64 a),(8,.i .i64 a2)]) [] =
  Xy (run (Jw s v a) a2) (λ(zr:Int)=>(XE.ret,frm [(4,.i .i64 zr)],[])) (λ(zr:Unit)=>(XE.exit 0,frm [],[])):=by
 obtain⟨rfl⟩:=H1;rw[Qw];simp -dsimp only[↓evA,evB,Qt,func294,f294,QaW,cY,TP,TZ,simprocAttr];apply QB a2;intro a2;simp -dsimp +contextual only[↓evA,eZ,simprocAttr]
 try simp only[Jw,eY]
 all_goals rfl
theorem MU(v){R1 s}[H1:EncL c_b R1 s]:CP T (n+2) 294 [.imm 1 R1,.b v]=(DS s v).map λr=>.i .i64 r:=by
 obtain⟨rfl⟩:=H1;rw[Qp];simp -dsimp +contextual only[↓evA,eZ,simprocAttr,func294,f294,QaW,cY,IY]
 try simp only[DS,eY]
 all_goals rfl
theorem CW(v){R1 s}[H1:EncL c_b R1 s]:CP T (n+3) 257 [.imm 1 R1,.b v]=(Xi s v).map λr=>.b r:=by
 obtain⟨rfl⟩:=H1;rw[Qp];simp -dsimp +contextual only[↓evA,eZ,simprocAttr,func257,f257,Qie,lL,MU]
 try simp only[Xi,eY]
 all_goals rfl
theorem Cg(oxNo oxNow){R1 a R2 oxFinds R3 oxSecrets R4 oxSlots R5 oxClaims R6 oxTrials R7 oxChain R8 oxBook R9 d}[H1:EncR QJ R1 a][H2:EncL Q4 R2 oxFinds][H3:EncL Vk R3 oxSecrets][H4:EncL VD R4 oxSlots][H5:EncL Qz R5 oxClaims][H6:EncL VC R6 oxTrials][H7:EncL Vr R7 oxChain][H8:EncL VL R8 oxBook][H9:EncL c_b R9 d]:CM T (n+12) 176 [some (Ent.lst 8 R2),some (Ent.lst 3 R3),some (Ent.lst 3 R4),some (Ent.lst 5 R5),some (Ent.lst 4 R6),some (Ent.lst 5 R7),some (Ent.lst 4 R8),some (Ent.lst 1 R9)] [.agg R1,.agg [.i .i64 oxNo,.sl 0,.sl 1,.sl 2,.sl 3,.sl 4,.sl 5,.sl 6,.i .i64 oxNow],.sl 7]=(V9 a (⟨oxNo,oxFinds,oxSecrets,oxSlots,oxClaims,oxTrials,oxChain,oxBook,oxNow⟩:House) d).map λr=>.tup [.agg (VW r.1),.b r.2]:=by
 rcases H1,H2,H3,H4,H5,H6,H7,H8,H9 with⟨⟨rfl⟩,⟨rfl⟩,⟨rfl⟩,⟨rfl⟩,⟨rfl⟩,⟨rfl⟩,⟨rfl⟩,⟨rfl⟩,⟨rfl⟩⟩
 rw[UG];simp -dsimp +contextual (maxSteps:=100000000) only[↓evA,eZ,simprocAttr,func176,f176,rK,aC,CW,ZH,VM]
 try simp only[V9,eY]
 all_goals rfl
theorem Tf(s){R1 a R2 f R3 m}[H1:EncR QJ R1 a][H2:EncR Q4 R2 f][H3:EncL X5 R3 m]:CP T (n+13) 96 [.agg R1,.agg R2,.imm 2 R3,.i .i64 s]=(DA a f m s).map λr=>.tup [.agg (VW r.1),.b r.2]:=by
 rcases H1,H2,H3 with⟨⟨rfl⟩,⟨rfl⟩,⟨rfl⟩⟩
 rw[Qp];simp -dsimp +contextual (maxSteps:=100000000) only[↓evA,eZ,simprocAttr,func96,f96,Qos,yV,srt,VM,W0,RE,T4,LJ,Cg]
 try simp only[DA,eY]
 all_goals rfl
theorem N3(c){R1 a}[H1:EncR Qz R1 a]:CP T (n+1) 193 [.agg R1,.iptr 1 [[.i .i64 c]] 0 0]=(Ev a c).map λr=>.b r:=by
 obtain⟨rfl⟩:=H1;rw[Qp];simp -dsimp +contextual only[↓evA,eZ,simprocAttr,func193,f193,Qnd,jZ]
 try simp only[Ev,eY]
 all_goals rfl
theorem B0(f a a2){R1 s}[H1:EncL Qz R1 s]:LP T (n+2) 192 2 (frm [(0,.imm 5 R1),(1,.clo 193 [.iptr 1 [[.i .i64 f]] 0 0]),(7,.i .i64 a),(8,.i .i64 a2)]) [] =
  Xy (run (QW s f a) a2) (λ(zr:Int)=>(XE.ret,frm [(4,.i .i64 zr)],[])) (λ(zr:Unit)=>(XE.exit 0,frm [],[])):=by
 obtain⟨rfl⟩:=H1;rw[Qw];simp -dsimp only[↓evA,evB,Qt,func192,f192,SL,Ld,TP,TZ,simprocAttr];apply QB a2;intro a2;simp -dsimp +contextual only[↓evA,eZ,simprocAttr,N3]
 try simp only[QW,eY]
 all_goals rfl
theorem Da(c){R1 s}[H1:EncL Qz R1 s]:CP T (n+3) 192 [.imm 5 R1,.clo 193 [.iptr 1 [[.i .i64 c]] 0 0]]=(VP s c).map λr=>.i .i64 r:=by
 obtain⟨rfl⟩:=H1;rw[Qp];simp -dsimp +contextual only[↓evA,eZ,simprocAttr,func192,f192,SL,Ld,B0]
 try simp only[VP,eY]
 all_goals rfl
theorem AN(i){R1 l}[H1:EncL Qz R1 l]:CP T (n+4) 104 [.imm 5 R1,.i .i64 i]=(Xn l i).map λr=>.i .i64 r:=by
 obtain⟨rfl⟩:=H1;rw[Qp];simp -dsimp +contextual only[↓evA,eZ,simprocAttr,func104,f104,QhE,kf,Da]
 try simp only[Xn,eY]
 all_goals rfl
theorem PO{R1 a R2 c}[H1:EncR Qz R1 a][H2:EncR Qz R2 c]:CP T (n+1) 258 [.agg R1,.iptr 5 [R2] 0 0]=(Ff a c).map λr=>.b r:=by
 rcases H1,H2 with⟨⟨rfl⟩,⟨rfl⟩⟩
 rw[Qp];simp -dsimp +contextual only[↓evA,eZ,simprocAttr,func258,f258,QeM,k0]
 try simp only[Ff,eY]
 all_goals rfl
theorem Cm(a a2){R1 s R2 f}[H1:EncL Qz R1 s][H2:EncR Qz R2 f]:LP T (n+2) 192 2 (frm [(0,.imm 5 R1),(1,.clo 258 [.iptr 5 [R2] 0 0]),(7,.i .i64 a),(8,.i .i64 a2)]) [] =
  Xy (run (QX s f a) a2) (λ(zr:Int)=>(XE.ret,frm [(4,.i .i64 zr)],[])) (λ(zr:Unit)=>(XE.exit 0,frm [],[])):=by
 rcases H1,H2 with⟨⟨rfl⟩,⟨rfl⟩⟩
 rw[Qw];simp -dsimp only[↓evA,evB,Qt,func192,f192,SL,Ld,TP,TZ,simprocAttr];apply QB a2;intro a2;simp -dsimp +contextual only[↓evA,eZ,simprocAttr,PO]
 try simp only[QX,eY]
 all_goals rfl
theorem Dc{R1 s R2 c}[H1:EncL Qz R1 s][H2:EncR Qz R2 c]:CP T (n+3) 192 [.imm 5 R1,.clo 258 [.iptr 5 [R2] 0 0]]=(VS s c).map λr=>.i .i64 r:=by
 rcases H1,H2 with⟨⟨rfl⟩,⟨rfl⟩⟩
 rw[Qp];simp -dsimp +contextual only[↓evA,eZ,simprocAttr,func192,f192,SL,Ld,Cm]
 try simp only[VS,eY]
 all_goals rfl
theorem Cx{R1 s R2 c}[H1:EncL Qz R1 s][H2:EncR Qz R2 c]:CP T (n+4) 201 [.imm 5 R1,.clo 258 [.iptr 5 [R2] 0 0]]=(Vd s c).map λr=>.b r:=by
 rcases H1,H2 with⟨⟨rfl⟩,⟨rfl⟩⟩
 rw[Qp];simp -dsimp +contextual only[↓evA,eZ,simprocAttr,func201,f201,tt,Y8,Dc]
 try simp only[Vd,eY]
 all_goals rfl
theorem NP(a2){R1 l R2 a R3 o}[H1:EncL Qz R1 l][H2:EncR Qz R2 a][H3:EncL Qz R3 o]:LP T (n+1) 177 5 (frm [(0,.imm 5 R1),(3,.ptr 0 0 0),(6,.sl 1),(7,.i .i64 a2)]) [some (Ent.box R2),some (Ent.lst 5 R3)] =
  (run (AY l a o) a2).map (λ(zr:Int)=>(XE.exit 0,frm [(0,.imm 5 (l.map Qz)),(3,.ptr 0 0 0),(6,.sl 1),(7,.i .i64 zr)],[some (Ent.box (Qz a)),some (Ent.lst 5 (o.map Qz))])):=by
 rcases H1,H2,H3 with⟨⟨rfl⟩,⟨rfl⟩,⟨rfl⟩⟩
 rw[Qw];simp -dsimp only[↓evA,evB,Qt,func177,f177,QaE,dY,TP,TZ,simprocAttr];apply QB a2;intro a2;simp -dsimp +contextual only[↓evA,eZ,simprocAttr,srt]
 try simp only[AY,eY]
 all_goals rfl
theorem SZ{R1 l R2 a}[H1:EncL Qz R1 l][H2:EncR Qz R2 a]:CP T (n+5) 177 [.imm 5 R1,.agg R2]=(E6 l a).map λr=>.tup [.own 5 (r.1.map Qz),.b r.2]:=by
 rcases H1,H2 with⟨⟨rfl⟩,⟨rfl⟩⟩
 rw[Qp];simp -dsimp +contextual only[↓evA,eZ,simprocAttr,func177,f177,QaE,dY,srt,Ed,AN,Cx,xN,Gl,NP]
 try simp only[E6,eY]
 all_goals first|rfl|(simp +contextual only[evN]<;>rfl)
theorem OC(oxNo oxNow){R1 a R2 oxFinds R3 oxSecrets R4 oxSlots R5 oxClaims R6 oxTrials R7 oxChain R8 oxBook}[H1:EncR QJ R1 a][H2:EncL Q4 R2 oxFinds][H3:EncL Vk R3 oxSecrets][H4:EncL VD R4 oxSlots][H5:EncL Qz R5 oxClaims][H6:EncL VC R6 oxTrials][H7:EncL Vr R7 oxChain][H8:EncL VL R8 oxBook]:CM T (n+12) 176 [some (Ent.lst 8 R2),some (Ent.lst 3 R3),some (Ent.lst 3 R4),some (Ent.lst 5 R5),some (Ent.lst 4 R6),some (Ent.lst 5 R7),some (Ent.lst 4 R8)] [.agg R1,.agg [.i .i64 oxNo,.sl 0,.sl 1,.sl 2,.sl 3,.sl 4,.sl 5,.sl 6,.i .i64 oxNow],.nil]=(Dg a (⟨oxNo,oxFinds,oxSecrets,oxSlots,oxClaims,oxTrials,oxChain,oxBook,oxNow⟩:House)).map λr=>.tup [.agg (VW r.1),.b r.2]:=by
 rcases H1,H2,H3,H4,H5,H6,H7,H8 with⟨⟨rfl⟩,⟨rfl⟩,⟨rfl⟩,⟨rfl⟩,⟨rfl⟩,⟨rfl⟩,⟨rfl⟩,⟨rfl⟩⟩
 rw[UG];simp -dsimp +contextual (maxSteps:=100000000) only[↓evA,eZ,simprocAttr,func176,f176,rK,aC,CW,ZH,VM]
 try simp only[Dg,eY]
 all_goals rfl
theorem RA(i w a2){R1 a}[H1:EncR QJ R1 a]:CP T (n+13) 97 [.agg R1,.i .i64 i,.i .i64 w,.i .i64 a2]=(Ct a i w a2).map λr=>.tup [.agg (VW r.1),.b r.2]:=by
 obtain⟨rfl⟩:=H1;rw[Qp];simp -dsimp +contextual (maxSteps:=100000000) only[↓evA,eZ,simprocAttr,func97,f97,QoA,wY,srt,VM,SZ,ZH,Ah,AN,vA,OC]
 try simp only[Ct,eY]
 try simp only[List.contains_nil,Qi,Bool.and_true,Vx,List.length_append,List.length_cons,List.length_nil,Nat.zero_add,Vn,VJ]
 all_goals rfl
theorem N8(c a){R1 l}[H1:EncL X5 R1 l]:CP T (n+6) 194 [.imm 2 R1,.i .i64 c,.i .i64 a]=(CG l c a).map λr=>.i .i64 r:=by
 obtain⟨rfl⟩:=H1;rw[Qp];simp -dsimp +contextual only[↓evA,eZ,simprocAttr,func194,f194,Qg6,lX,GI,QV,SK]
 try simp only[CG,eY]
 all_goals rfl
theorem GR{R1 l R2 a}[H1:EncL X5 R1 l][H2:EncR VC R2 a]:CP T (n+7) 105 [.imm 2 R1,.agg R2]=(XW l a).map λr=>.i .i64 r:=by
 rcases H1,H2 with⟨⟨rfl⟩,⟨rfl⟩⟩
 rw[Qp];simp -dsimp +contextual only[↓evA,eZ,simprocAttr,func105,f105,QnP,kR,F8,N8]
 try simp only[XW,eY]
 all_goals rfl
theorem Oc(q a2 a3){R1 a}[H1:EncL X5 R1 a]:LP T (n+1) 264 2 (frm [(1,.i .i64 q),(7,.imm 2 R1),(8,.i .i64 a2),(9,.i .i64 a3)]) [] =
  Xy (run (AW q a a2) a3) (λ(zr:Int)=>(XE.ret,frm [(4,.i .i64 zr)],[])) (λ(zr:Unit)=>(XE.exit 0,frm [],[])):=by
 obtain⟨rfl⟩:=H1;rw[Qw];simp -dsimp only[↓evA,evB,Qt,func264,f264,zh,dC,TP,TZ,simprocAttr];apply QB a3;intro a3;simp -dsimp +contextual only[↓evA,eZ,simprocAttr]
 try simp only[AW,eY]
 all_goals rfl
theorem Tb(q){R1 l}[H1:EncL X5 R1 l]:CP T (n+2) 264 [.imm 2 R1,.i .i64 q]=(EW l q).map λr=>.i .i64 r:=by
 obtain⟨rfl⟩:=H1;rw[Qp];simp -dsimp +contextual only[↓evA,eZ,simprocAttr,func264,f264,zh,dC,Oc]
 try simp only[EW,eY]
 all_goals rfl
theorem P7(a2){R1 l R2 a}[H1:EncL X5 R1 l][H2:EncR VC R2 a]:CP T (n+8) 180 [.imm 2 R1,.agg R2,.i .i64 a2]=(Dm l a a2).map λr=>.tup [.agg (VC r.1),.b r.2]:=by
 rcases H1,H2 with⟨⟨rfl⟩,⟨rfl⟩⟩
 rw[Qp];simp -dsimp +contextual only[↓evA,eZ,simprocAttr,func180,f180,QnM,lw,GR,Tb]
 try simp only[Dm,eY]
 all_goals rfl
theorem Kz(i s){R1 l}[H1:EncL Qz R1 l]:CP T (n+5) 182 [.imm 5 R1,.i .i64 i,.i .i64 s]=(Zz l i s).map λr=>.tup [.own 5 (r.1.map Qz),.b r.2]:=by
 obtain⟨rfl⟩:=H1;rw[Qp];simp -dsimp +contextual only[↓evA,eZ,simprocAttr,func182,f182,QlG,mF,Ed,AN,Gl]
 try simp only[Zz,eY]
 all_goals first|rfl|(simp +contextual only[evN]<;>rfl)
theorem Px(c a2){R1 a}[H1:EncR QJ R1 a]:CP T (n+13) 98 [.agg R1,.i .i64 c,.i .i64 a2]=(By a c a2).map λr=>.tup [.agg (VW r.1),.b r.2]:=by
 obtain⟨rfl⟩:=H1;rw[Qp];simp -dsimp +contextual (maxSteps:=100000000) only[↓evA,eZ,simprocAttr,func98,f98,QsZ,yp,srt,VM,AN,ZH,G6,P7,F8,Kz,Cg]
 try simp only[By,eY]
 all_goals rfl
theorem Ig(a2){R1 a}[H1:EncR QJ R1 a]:CP T (n+12) 183 [.agg R1,.i .i64 a2]=(CT a a2).map λr=>.tup [.agg (Q4 r.1),.b r.2]:=by
 obtain⟨rfl⟩:=H1;rw[Qp];simp -dsimp +contextual (maxSteps:=100000000) only[↓evA,eZ,simprocAttr,func183,f183,Qjz,lz,Jq,ZH,Ah]
 try simp only[CT,eY]
 all_goals rfl
theorem KW(a f a3 a4){R1 b R2 a2}[H1:EncR Qz R1 b][H2:EncL Qz R2 a2]:LP T (n+1) 184 4 (frm [(1,.i .i64 a),(5,.ptr 0 0 0),(6,.b f),(10,.imm 5 R2),(11,.i .i64 a3),(12,.i .i64 a4)]) [some (Ent.box R1)] =
  (run (VG a a2 a3) (b,f,a4)).map (λ(zr:Claim)=>(XE.exit 0,frm [(5,.ptr 0 0 0)],[some (Ent.box (Qz zr))])):=by
 rcases H1,H2 with⟨⟨rfl⟩,⟨rfl⟩⟩
 rw[Qw];simp -dsimp only[↓evA,evB,Qt,func184,f184,QaD,fo,TP,TZ,simprocAttr];apply E7 b f a4;intro b f a4;simp -dsimp +contextual only[↓evA,eZ,simprocAttr]
 try simp only[VG,eY]
 all_goals rfl
theorem Hp(a){R1 l}[H1:EncL Qz R1 l]:CP T (n+2) 184 [.imm 5 R1,.i .i64 a]=(Zn l a).map λr=>.i .i64 r:=by
 obtain⟨rfl⟩:=H1;rw[Qp];simp -dsimp +contextual only[↓evA,eZ,simprocAttr,func184,f184,QaD,fo,KW]
 try simp only[Zn,eY]
 all_goals rfl
theorem Wr(a){R1 l}[H1:EncL VD R1 l]:CP T (n+8) 268 [.imm 3 R1,.i .i64 a]=(En l a).map λr=>.tup [.own 3 (r.1.map VD),.b r.2]:=by
 obtain⟨rfl⟩:=H1;rw[Qp];simp -dsimp +contextual only[↓evA,eZ,simprocAttr,func268,f268,QgE,lO,B4,Ah,GL]
 try simp only[En,eY]
 all_goals first|rfl|(simp +contextual only[evN]<;>rfl)
theorem Ih(a2 a3 w){R1 a}[H1:EncR QJ R1 a]:CP T (n+10) 185 [.agg R1,.i .i64 a2,.i .i64 a3,.i .i64 w]=(BH a a2 a3 w).map λr=>.tup [.agg (VW r.1),.b r.2]:=by
 obtain⟨rfl⟩:=H1;rw[Qp];simp -dsimp +contextual (maxSteps:=100000000) only[↓evA,eZ,simprocAttr,func185,f185,Qhv,ly,VM,Wr,LJ]
 try simp only[BH,eY]
 all_goals rfl
theorem Yt(d){R1 a}[H1:EncR ER R1 a]:CP T (n+3) 186 [.agg R1,.i .i64 d]=(GE a d).map λr=>.i .i64 r:=by
 obtain⟨rfl⟩:=H1;rw[Qp];simp -dsimp +contextual only[↓evA,eZ,simprocAttr,func186,f186,QeT,mj,Hi,QV]
 try simp only[GE,eY]
 all_goals rfl
theorem Ky{R1 l R2 a}[H1:EncL VL R1 l][H2:EncR VL R2 a]:CP T (n+4) 187 [.imm 4 R1,.agg R2]=(As l a).map λr=>.tup [.own 4 (r.1.map VL),.b r.2]:=by
 rcases H1,H2 with⟨⟨rfl⟩,⟨rfl⟩⟩
 rw[Qp];simp -dsimp +contextual only[↓evA,eZ,simprocAttr,func187,f187,QnE,mw,GB,DV]
 try simp only[As,eY]
 try simp only[List.contains_nil,Qi,Bool.and_true,Vx,List.length_append,List.length_cons,List.length_nil,Nat.zero_add,Vn,VJ]
 all_goals first|rfl|(simp +contextual only[evN]<;>rfl)
theorem RC(a2){R1 a}[H1:EncR QJ R1 a]:CP T (n+13) 99 [.agg R1,.i .i64 a2]=(Cv a a2).map λr=>.tup [.agg (VW r.1),.b r.2]:=by
 obtain⟨rfl⟩:=H1;rw[Qp];simp -dsimp +contextual (maxSteps:=100000000) only[↓evA,eZ,simprocAttr,func99,f99,QqR,uK,srt,Ig,Hp,VM,AN,Ih,Kz,Yt,Ky,Cg]
 try simp only[Cv,eY]
 all_goals rfl
theorem Tm(k):CP T (n+1) 306 [.i .i64 k]=(E5 k).map λr=>.i .i64 r:=by
 rw[Qp];simp -dsimp +contextual only[↓evA,eZ,simprocAttr,func306,f306,Qls,lF]
 try simp only[E5,eY]
 all_goals rfl
theorem Uz{R1 f}[H1:EncR Q4 R1 f]:CP T (n+4) 277 [.agg R1]=(FI f).map λr=>.i .i64 r:=by
 obtain⟨rfl⟩:=H1;rw[Qp];simp -dsimp +contextual only[↓evA,eZ,simprocAttr,func277,f277,QkP,kZ,Gr,Tm]
 try simp only[FI,eY]
 all_goals rfl
theorem Kh(a){R1 f}[H1:EncR Q4 R1 f]:CP T (n+5) 200 [.agg R1,.i .i64 a]=(A9 f a).map λr=>.b r:=by
 obtain⟨rfl⟩:=H1;rw[Qp];simp -dsimp +contextual only[↓evA,eZ,simprocAttr,func200,f200,Qnm,jN,Gr,Uz]
 try simp only[A9,eY]
 all_goals rfl
theorem Td{R1 c R2 c2}[H1:EncR Qz R1 c][H2:EncR ER R2 c2]:CP T (n+1) 202 [.agg R1,.iptr 5 [R2] 0 0]=(Gq c c2).map λr=>.b r:=by
 rcases H1,H2 with⟨⟨rfl⟩,⟨rfl⟩⟩
 rw[Qp];simp -dsimp +contextual only[↓evA,eZ,simprocAttr,func202,f202,Qnl,jX]
 try simp only[Gq,eY]
 all_goals rfl
theorem C9(a a2){R1 s R2 f}[H1:EncL Qz R1 s][H2:EncR ER R2 f]:LP T (n+2) 192 2 (frm [(0,.imm 5 R1),(1,.clo 202 [.iptr 5 [R2] 0 0]),(7,.i .i64 a),(8,.i .i64 a2)]) [] =
  Xy (run (Q6 s f a) a2) (λ(zr:Int)=>(XE.ret,frm [(4,.i .i64 zr)],[])) (λ(zr:Unit)=>(XE.exit 0,frm [],[])):=by
 rcases H1,H2 with⟨⟨rfl⟩,⟨rfl⟩⟩
 rw[Qw];simp -dsimp only[↓evA,evB,Qt,func192,f192,SL,Ld,TP,TZ,simprocAttr];apply QB a2;intro a2;simp -dsimp +contextual only[↓evA,eZ,simprocAttr,Td]
 try simp only[Q6,eY]
 all_goals rfl
theorem DZ{R1 s R2 c}[H1:EncL Qz R1 s][H2:EncR ER R2 c]:CP T (n+3) 192 [.imm 5 R1,.clo 202 [.iptr 5 [R2] 0 0]]=(V5 s c).map λr=>.i .i64 r:=by
 rcases H1,H2 with⟨⟨rfl⟩,⟨rfl⟩⟩
 rw[Qp];simp -dsimp +contextual only[↓evA,eZ,simprocAttr,func192,f192,SL,Ld,C9]
 try simp only[V5,eY]
 all_goals rfl
theorem CZ{R1 s R2 c}[H1:EncL Qz R1 s][H2:EncR ER R2 c]:CP T (n+4) 201 [.imm 5 R1,.clo 202 [.iptr 5 [R2] 0 0]]=(Vh s c).map λr=>.b r:=by
 rcases H1,H2 with⟨⟨rfl⟩,⟨rfl⟩⟩
 rw[Qp];simp -dsimp +contextual only[↓evA,eZ,simprocAttr,func201,f201,tt,Y8,DZ]
 try simp only[Vh,eY]
 all_goals rfl
theorem Ia(a){R1 f R2 l}[H1:EncR Q4 R1 f][H2:EncL Qz R2 l]:CP T (n+6) 110 [.agg R1,.imm 5 R2,.i .i64 a]=(CO f l a).map λr=>.i .i64 r:=by
 rcases H1,H2 with⟨⟨rfl⟩,⟨rfl⟩⟩
 rw[Qp];simp -dsimp +contextual only[↓evA,eZ,simprocAttr,func110,f110,Qjw,lq,Hp,Kh,CZ]
 try simp only[CO,eY]
 all_goals rfl
theorem Sk{R1 a R2 o R3 d}[H1:EncR QJ R1 a][H2:EncR QJ R2 o][H3:EncL c_b R3 d]:CM T (n+12) 176 [some (Ent.lst 1 R3)] [.agg R1,.agg R2,.sl 0]=(Cj a o d).map λr=>.tup [.agg (VW r.1),.b r.2]:=by
 rcases H1,H2,H3 with⟨⟨rfl⟩,⟨rfl⟩,⟨rfl⟩⟩
 rw[UG];simp -dsimp +contextual (maxSteps:=100000000) only[↓evA,eZ,simprocAttr,func176,f176,rK,aC,CW,ZH,VM]
 try simp only[Cj,eY]
 all_goals rfl
theorem Rz(a2){R1 a}[H1:EncR QJ R1 a]:CP T (n+13) 100 [.agg R1,.i .i64 a2]=(Ca a a2).map λr=>.tup [.agg (VW r.1),.b r.2]:=by
 obtain⟨rfl⟩:=H1;rw[Qp];simp -dsimp +contextual (maxSteps:=100000000) only[↓evA,eZ,simprocAttr,func100,f100,Qhd,lH,srt,Ig,VM,Ia,Ih,Cg,Sk]
 try simp only[Ca,eY]
 all_goals rfl
theorem bN{R1 a}[H1:EncR Jp R1 a]:CP T (n+2) 298 [.agg R1]=(Ht a).map λr=>.b r:=by
 obtain⟨rfl⟩:=H1;rw[Qp];simp -dsimp +contextual only[↓evA,eZ,simprocAttr,func298,f298,Qhg,kS,QV]
 try simp only[Ht,eY]
 all_goals rfl
theorem Ru{R1 a R2 c}[H1:EncR Jp R1 a][H2:EncR Jp R2 c]:CP T (n+1) 300 [.agg R1,.iptr 3 [R2] 0 0]=(FS a c).map λr=>.b r:=by
 rcases H1,H2 with⟨⟨rfl⟩,⟨rfl⟩⟩
 rw[Qp];simp -dsimp +contextual only[↓evA,eZ,simprocAttr,func300,f300,Qi0,kb]
 try simp only[FS,eY]
 all_goals rfl
theorem Db(a a2){R1 s R2 f}[H1:EncL Jp R1 s][H2:EncR Jp R2 f]:LP T (n+2) 319 2 (frm [(0,.imm 3 R1),(1,.clo 300 [.iptr 3 [R2] 0 0]),(7,.i .i64 a),(8,.i .i64 a2)]) [] =
  Xy (run (Q8 s f a) a2) (λ(zr:Int)=>(XE.ret,frm [(4,.i .i64 zr)],[])) (λ(zr:Unit)=>(XE.exit 0,frm [],[])):=by
 rcases H1,H2 with⟨⟨rfl⟩,⟨rfl⟩⟩
 rw[Qw];simp -dsimp only[↓evA,evB,Qt,func319,f319,Qau,c6,TP,TZ,simprocAttr];apply QB a2;intro a2;simp -dsimp +contextual only[↓evA,eZ,simprocAttr,Ru]
 try simp only[Q8,eY]
 all_goals rfl
theorem Ea{R1 s R2 c}[H1:EncL Jp R1 s][H2:EncR Jp R2 c]:CP T (n+3) 319 [.imm 3 R1,.clo 300 [.iptr 3 [R2] 0 0]]=(V8 s c).map λr=>.i .i64 r:=by
 rcases H1,H2 with⟨⟨rfl⟩,⟨rfl⟩⟩
 rw[Qp];simp -dsimp +contextual only[↓evA,eZ,simprocAttr,func319,f319,Qau,c6,Db]
 try simp only[V8,eY]
 all_goals rfl
theorem Di{R1 s R2 c}[H1:EncL Jp R1 s][H2:EncR Jp R2 c]:CP T (n+4) 299 [.imm 3 R1,.clo 300 [.iptr 3 [R2] 0 0]]=(Vo s c).map λr=>.b r:=by
 rcases H1,H2 with⟨⟨rfl⟩,⟨rfl⟩⟩
 rw[Qp];simp -dsimp +contextual only[↓evA,eZ,simprocAttr,func299,f299,Qj9,k7,Ea]
 try simp only[Vo,eY]
 all_goals rfl
theorem PU(a2 a3){R1 l R2 a}[H1:EncL Jp R1 l][H2:EncL Jp R2 a]:LP T (n+5) 269 4 (frm [(0,.imm 3 R1),(8,.imm 3 R2),(9,.i .i64 a2),(10,.i .i64 a3)]) [] =
  Xy (run (Bx l a a2) a3) (λ(zr:Bool)=>(XE.ret,frm [(2,.b zr)],[])) (λ(zr:Unit)=>(XE.exit 0,frm [],[])):=by
 rcases H1,H2 with⟨⟨rfl⟩,⟨rfl⟩⟩
 rw[Qw];simp -dsimp only[↓evA,evB,Qt,func269,f269,Qat,dw,TP,TZ,simprocAttr];apply QB a3;intro a3;simp -dsimp +contextual only[↓evA,eZ,simprocAttr,bN,Di]
 try simp only[Bx,eY]
 all_goals rfl
theorem TX{R1 l}[H1:EncL Jp R1 l]:CP T (n+6) 269 [.imm 3 R1]=(G3 l).map λr=>.b r:=by
 obtain⟨rfl⟩:=H1;rw[Qp];simp -dsimp +contextual only[↓evA,eZ,simprocAttr,func269,f269,Qat,dw,PU]
 try simp only[G3,eY]
 all_goals rfl
theorem N9{R1 s}[H1:EncL Jp R1 s]:CP T (n+1) 301 [.imm 3 R1]=(ED s).map λr=>.own 3 (r.map Jp):=by
 obtain⟨rfl⟩:=H1;rw[Qp];simp -dsimp +contextual only[↓evA,eZ,simprocAttr,func301,f301,QkC,kj]
 try simp only[ED,eY]
 all_goals first|rfl|(simp +contextual only[evN]<;>rfl)
theorem Ts(a):CP T (n+1) 321 [.i .i64 a]=(E2 a).map λr=>.b r:=by
 rw[Qp];simp -dsimp +contextual only[↓evA,eZ,simprocAttr,func321,f321,QjW,lV]
 try simp only[E2,eY]
 all_goals rfl
theorem PZ(a a2):CP T (n+2) 304 [.i .i64 a,.i .i64 a2]=(Fk a a2).map λr=>.i .i64 r:=by
 rw[Qp];simp -dsimp +contextual only[↓evA,eZ,simprocAttr,func304,f304,Qg1,kz,Ts]
 try simp only[Fk,eY]
 all_goals rfl
theorem My{R1 a R2 b}[H1:EncR Jp R1 a][H2:EncR Jp R2 b]:CP T (n+3) 303 [.agg R1,.agg R2]=(BD a b).map λr=>.i .i64 r:=by
 rcases H1,H2 with⟨⟨rfl⟩,⟨rfl⟩⟩
 rw[Qp];simp -dsimp +contextual only[↓evA,eZ,simprocAttr,func303,f303,QmL,mH,PZ]
 try simp only[BD,eY]
 all_goals rfl
theorem ZJ(a b i j){R1 d}[H1:EncL Jp R1 d]:LP T (n+4) 335 4 (frm [(0,.sl 0),(1,.i .i64 a),(2,.i .i64 b),(3,.clo 303 []),(8,.i .i64 i),(9,.i .i64 j)]) [some (Ent.lst 3 R1)] =
  (run (QR a b i) (d,j)).map (λ(zr:(List Bid))=>(XE.exit 2,frm [(0,.sl 0),(1,.i .i64 a),(2,.i .i64 b),(3,.clo 303 []),(8,.i .i64 i)],[some (Ent.lst 3 (zr.map Jp))])):=by
 obtain⟨rfl⟩:=H1;rw[Qw];simp -dsimp only[↓evA,evB,Qt,func335,f335,tn,Y5,TP,TZ,simprocAttr];apply QO d j;intro d j;simp -dsimp +contextual only[↓evA,eZ,simprocAttr,My]
 try simp only[QR,eY]
 all_goals rfl
theorem ZK(a b i){R1 d}[H1:EncL Jp R1 d]:LP T (n+5) 335 1 (frm [(0,.sl 0),(1,.i .i64 a),(2,.i .i64 b),(3,.clo 303 []),(8,.i .i64 i)]) [some (Ent.lst 3 R1)] =
  (run (QE a b) (d,i)).map (λ(zr:(List Bid))=>(XE.exit 0,frm [(0,.sl 0)],[some (Ent.lst 3 (zr.map Jp))])):=by
 obtain⟨rfl⟩:=H1;rw[Qw];simp -dsimp only[↓evA,evB,Qt,func335,f335,tn,Y5,TP,TZ,simprocAttr];apply QO d i;intro d i;simp -dsimp +contextual only[↓evA,eZ,simprocAttr,ZJ]
 try simp only[QE,eY]
 all_goals rfl
theorem Xs(a b){R1 d}[H1:EncL Jp R1 d]:CA T (n+6) 335 [some (Ent.lst 3 R1)] [.sl 0,.i .i64 a,.i .i64 b,.clo 303 []]=(Qx d a b).map λr=>(.tup [],[some (Ent.lst 3 (r.map Jp))]):=by
 obtain⟨rfl⟩:=H1;rw[mp];simp -dsimp +contextual only[↓evA,eZ,simprocAttr,func335,f335,tn,Y5,ZK]
 try simp only[Qx,eY]
 all_goals rfl
theorem Bh(a b a2 b2){R1 d}[H1:EncL Jp R1 d]:LP T (n+7) 320 2 (frm [(0,.sl 0),(1,.i .i64 a),(2,.clo 303 []),(6,.i .i64 b),(7,.i .i64 a2),(8,.i .i64 b2)]) [some (Ent.lst 3 R1)] =
  (run (QI a b) (d,a2,b2)).map (λ(zr:(List Bid)×Int)=>(XE.exit 0,frm [(0,.sl 0),(1,.i .i64 a),(2,.clo 303 []),(6,.i .i64 b),(7,.i .i64 zr.2)],[some (Ent.lst 3 (zr.1.map Jp))])):=by
 obtain⟨rfl⟩:=H1;rw[Qw];simp -dsimp only[↓evA,evB,Qt,func320,f320,kI,U4,TP,TZ,simprocAttr];apply E7 d a2 b2;intro d a2 b2;simp -dsimp +contextual only[↓evA,eZ,simprocAttr,srt,Xs]
 try simp only[QI,eY]
 all_goals rfl
theorem Bg(a b a2 b2){R1 d}[H1:EncL Jp R1 d]:LP T (n+2) 320 9 (frm [(0,.sl 0),(1,.i .i64 a),(2,.clo 303 []),(6,.i .i64 b),(7,.i .i64 a2),(8,.i .i64 b2)]) [some (Ent.lst 3 R1)] =
  (run (V3 d a b a2 b2) ()).map (λ(zr:Unit)=>(XE.exit 4,frm [(0,.sl 0),(1,.i .i64 a),(2,.clo 303 []),(6,.i .i64 b),(7,.i .i64 a2)],[some (Ent.lst 3 (d.map Jp))])):=by
 obtain⟨rfl⟩:=H1;rw[Qw];simp -dsimp only[↓evA,evB,Qt,func320,f320,kI,U4,TP,TZ,simprocAttr];apply qM;simp -dsimp +contextual only[↓evA,eZ,simprocAttr,srt]
 try simp only[V3,eY]
 all_goals rfl
end Go.Proofs.YtoilkmgiofimjaaGreatDoor
