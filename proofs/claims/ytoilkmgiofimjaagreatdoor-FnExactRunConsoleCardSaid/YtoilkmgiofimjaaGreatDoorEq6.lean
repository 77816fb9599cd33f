import Derived.Test.YtoilkmgiofimjaaGreatDoorEq5
namespace Go.Proofs.YtoilkmgiofimjaaGreatDoor
open Go Go.Proofs Go.Proofs.YtoilkmgiofimjaaGreatDoor.Am Tryz
set_option maxHeartbeats 4000000
set_option linter.unusedVariables false
set_option linter.unusedSimpArgs false
set_option linter.defProp false
set_option maxRecDepth 100000
variable(n:Nat)
theorem Bf(a b){R1 d}[H1:EncL Jp R1 d]:LP T (n+3) 320 7 (frm [(0,.sl 0),(1,.i .i64 a),(2,.clo 303 []),(6,.i .i64 b)]) [some (Ent.lst 3 R1)] =
  (run (Q7 d a) b).map (λ(zr:Unit)=>(XE.exit 2,frm [(0,.sl 0)],[some (Ent.lst 3 (d.map Jp))])):=by
 obtain⟨rfl⟩:=H1;rw[Qw];simp -dsimp only[↓evA,evB,Qt,func320,f320,kI,U4,TP,TZ,simprocAttr];apply QB b;intro b;simp -dsimp +contextual only[↓evA,eZ,simprocAttr,srt,Bg]
 try simp only[Q7,eY]
 all_goals rfl
theorem BZ(a){R1 d}[H1:EncL Jp R1 d]:CA T (n+8) 320 [some (Ent.lst 3 R1)] [.sl 0,.i .i64 a,.clo 303 []]=(VE d a).map λr=>(.tup [],[some (Ent.lst 3 (r.map Jp))]):=by
 obtain⟨rfl⟩:=H1;rw[mp];simp -dsimp +contextual only[↓evA,eZ,simprocAttr,func320,f320,kI,U4,srt,Xs,Bh,Bf]
 try simp only[VE,eY]
 all_goals rfl
theorem BT{R1 a}[H1:EncL Jp R1 a]:CA T (n+9) 302 [some (Ent.lst 3 R1)] [.sl 0,.clo 303 []]=(Vz a).map λr=>(.tup [],[some (Ent.lst 3 (r.map Jp))]):=by
 obtain⟨rfl⟩:=H1;rw[mp];simp -dsimp +contextual only[↓evA,eZ,simprocAttr,func302,f302,QnI,jB,srt,BZ]
 try simp only[Vz,eY]
 all_goals rfl
theorem OE{R1 l}[H1:EncL Jp R1 l]:CP T (n+10) 270 [.imm 3 R1]=(De l).map λr=>.own 3 (r.map Jp):=by
 obtain⟨rfl⟩:=H1;rw[Qp];simp -dsimp +contextual only[↓evA,eZ,simprocAttr,func270,f270,Qnq,jI,srt,N9,BT]
 try simp only[De,eY]
 all_goals first|rfl|(simp +contextual only[evN]<;>rfl)
theorem Yn{R1 l}[H1:EncL Jp R1 l]:CP T (n+11) 188 [.imm 3 R1]=(Gy l).map λr=>.tup [.i .i64 r.1,.i .i64 r.2]:=by
 obtain⟨rfl⟩:=H1;rw[Qp];simp -dsimp +contextual only[↓evA,eZ,Nat.reduceAdd,Nat.reduceMul,Nat.reduceBEq,Nat.reduceLeDiff,Nat.reduceLT,func188,f188,Qii,lI,TX,OE]
 try simp only[Gy,eY]
 all_goals rfl
theorem LF(c s a2 a3){R1 p R2 o R3 a}[H1:EncL QA R1 p][H2:EncL QA R2 o][H3:EncL QA R3 a]:LP T (n+2) 271 6 (frm [(0,.i .i64 c),(1,.imm 1 R1),(5,.sl 0),(6,.i .i64 s),(25,.imm 1 R3),(26,.i .i64 a2),(27,.i .i64 a3)]) [some (Ent.lst 1 R2)] =
  Xy (run (Zc c p o a a2) (s,a3)) (λ(zr:(List Int))=>(XE.ret,frm [(4,.sl 0)],[some (Ent.lst 1 (zr.map QA))])) (λ(zr:Int)=>(XE.exit 0,frm [(0,.i .i64 c),(1,.imm 1 (p.map QA)),(5,.sl 0),(6,.i .i64 zr)],[some (Ent.lst 1 (o.map QA))])):=by
 rcases H1,H2,H3 with⟨⟨rfl⟩,⟨rfl⟩,⟨rfl⟩⟩
 rw[Qw];simp -dsimp only[↓evA,evB,Qt,func271,f271,mG,U2,TP,TZ,simprocAttr];apply QO s a3;intro s a3;simp -dsimp +contextual only[↓evA,eZ,simprocAttr,QV]
 try simp only[Zc,eY]
 all_goals rfl
theorem K8(c s l a2 a3){R1 o R2 a}[H1:EncL QA R1 o][H2:EncL QA R2 a]:LP T (n+1) 271 16 (frm [(0,.i .i64 c),(5,.sl 0),(6,.i .i64 s),(9,.i .i64 l),(43,.imm 1 R2),(44,.i .i64 a2),(45,.i .i64 a3)]) [some (Ent.lst 1 R1)] =
  (run (XO c s a a2) (o,l,a3)).map (λ(zr:(List Int)×Int)=>(XE.exit 2,frm [(5,.sl 0),(9,.i .i64 zr.2)],[some (Ent.lst 1 (zr.1.map QA))])):=by
 rcases H1,H2 with⟨⟨rfl⟩,⟨rfl⟩⟩
 rw[Qw];simp -dsimp only[↓evA,evB,Qt,func271,f271,mG,U2,TP,TZ,simprocAttr];apply E7 o l a3;intro o l a3;simp -dsimp +contextual only[↓evA,eZ,simprocAttr]
 try simp only[XO,eY]
 all_goals rfl
theorem KY(l i){R1 o}[H1:EncL QA R1 o]:LP T (n+1) 271 23 (frm [(5,.sl 0),(9,.i .i64 l),(13,.i .i64 i)]) [some (Ent.lst 1 R1)] =
  (run JZ (o,l,i)).map (λ(zr:(List Int))=>(XE.exit 4,frm [(5,.sl 0)],[some (Ent.lst 1 (zr.map QA))])):=by
 obtain⟨rfl⟩:=H1;rw[Qw];simp -dsimp only[↓evA,evB,Qt,func271,f271,mG,U2,TP,TZ,simprocAttr];apply E7 o l i;intro o l i;simp -dsimp +contextual only[↓evA,eZ,simprocAttr]
 try simp only[JZ,eY]
 all_goals rfl
theorem OG(c){R1 p}[H1:EncL QA R1 p]:CP T (n+3) 271 [.i .i64 c,.imm 1 R1]=(Dr c p).map λr=>.own 1 (r.map QA):=by
 obtain⟨rfl⟩:=H1;rw[Qp];simp -dsimp +contextual only[↓evA,eZ,simprocAttr,func271,f271,mG,U2,QV,LF,K8,KY]
 try simp only[Dr,eY]
 all_goals first|rfl|(simp +contextual only[evN]<;>rfl)
theorem Ut(p f):CP T (n+4) 189 [.i .i64 p,.i .i64 f]=(Eu p f).map λr=>.own 2 (r.map Nv):=by
 rw[Qp];simp -dsimp +contextual only[↓evA,eZ,Nat.reduceAdd,Nat.reduceMul,Nat.reduceBEq,Nat.reduceLeDiff,Nat.reduceLT,func189,f189,QlF,jx,QV,OG]
 try simp only[Eu,eY]
 all_goals first|rfl|(simp +contextual only[evN]<;>rfl)
theorem SW(a2){R1 a R2 b}[H1:EncR QJ R1 a][H2:EncL Jp R2 b]:CP T (n+13) 101 [.agg R1,.i .i64 a2,.imm 3 R2]=(DM a a2 b).map λr=>.tup [.agg (VW r.1),.b r.2]:=by
 rcases H1,H2 with⟨⟨rfl⟩,⟨rfl⟩⟩
 rw[Qp];simp -dsimp +contextual (maxSteps:=100000000) only[↓evA,eZ,Nat.reduceAdd,Nat.reduceMul,Nat.reduceBEq,Nat.reduceLeDiff,Nat.reduceLT,func101,f101,Qjf,ku,srt,Ig,Yn,Ia,VM,Ih,Ky,Ut,Cg]
 try simp only[DM,eY]
 all_goals rfl
theorem S8(a2){R1 a}[H1:EncR QJ R1 a]:CP T (n+13) 102 [.agg R1,.i .i64 a2]=(Dz a a2).map λr=>.tup [.agg (VW r.1),.b r.2]:=by
 obtain⟨rfl⟩:=H1;rw[Qp];simp -dsimp +contextual (maxSteps:=100000000) only[↓evA,eZ,simprocAttr,func102,f102,Qjh,kF,srt,VM,QV,Cg]
 try simp only[Dz,eY]
 all_goals rfl
theorem TW(w){R1 a R2 a2}[H1:EncR QJ R1 a][H2:EncL QA R2 a2]:CP T (n+14) 35 [.agg R1,.s w,.imm 1 R2]=(C3 a w a2).map (evO (λ(r:House×Bool×Bool)=>.tup [.agg (VW r.1),.b r.2.1,.b r.2.2]) λ_=>.tup [.agg [.i .i64 a.No,.z,.z,.z,.z,.z,.z,.z,.i .i64 a.Now],.b false,.b false]):=by
 rcases H1,H2 with⟨⟨rfl⟩,⟨rfl⟩⟩
 rw[Qp];simp -dsimp +contextual (maxSteps:=100000000) only[↓evA,eZ,Nat.reduceAdd,Nat.reduceMul,Nat.reduceBEq,Nat.reduceLeDiff,Nat.reduceLT,func35,f35,QoO,xj,Mz,Tq,Tf,RA,Px,RC,Rz,SW,S8]
 try simp only[C3,eY]
 all_goals rfl
theorem U6(w){R1 a R2 a2}[H1:EncR QJ R1 a][H2:EncL QA R2 a2]:CP T (n+14) 35 [.agg R1,.s w,.imm 1 R2]=Xy (C3 a w a2) (λ(r:House×Bool×Bool)=>.tup [.agg (VW r.1),.b r.2.1,.b r.2.2]) (λ_=>.tup [.agg [.i .i64 a.No,.z,.z,.z,.z,.z,.z,.z,.i .i64 a.Now],.b false,.b false]):=TW n w
theorem Sa(c){R1 a}[H1:EncR VC R1 a]:CP T (n+1) 273 [.agg R1,.iptr 1 [[.i .i64 c]] 0 0]=(FL a c).map λr=>.b r:=by
 obtain⟨rfl⟩:=H1;rw[Qp];simp -dsimp +contextual only[↓evA,eZ,simprocAttr,func273,f273,Qh9,mD]
 try simp only[FL,eY]
 all_goals rfl
theorem CL(f a a2){R1 s}[H1:EncL VC R1 s]:LP T (n+2) 272 2 (frm [(0,.imm 4 R1),(1,.clo 273 [.iptr 1 [[.i .i64 f]] 0 0]),(7,.i .i64 a),(8,.i .i64 a2)]) [] =
  Xy (run (Q2 s f a) a2) (λ(zr:Int)=>(XE.ret,frm [(4,.i .i64 zr)],[])) (λ(zr:Unit)=>(XE.exit 0,frm [],[])):=by
 obtain⟨rfl⟩:=H1;rw[Qw];simp -dsimp only[↓evA,evB,Qt,func272,f272,Qav,eB,TP,TZ,simprocAttr];apply QB a2;intro a2;simp -dsimp +contextual only[↓evA,eZ,simprocAttr,Sa]
 try simp only[Q2,eY]
 all_goals rfl
theorem DO(c){R1 s}[H1:EncL VC R1 s]:CP T (n+3) 272 [.imm 4 R1,.clo 273 [.iptr 1 [[.i .i64 c]] 0 0]]=(VY s c).map λr=>.i .i64 r:=by
 obtain⟨rfl⟩:=H1;rw[Qp];simp -dsimp +contextual only[↓evA,eZ,simprocAttr,func272,f272,Qav,eB,CL]
 try simp only[VY,eY]
 all_goals rfl
theorem UC(c){R1 a}[H1:EncR QJ R1 a]:CP T (n+4) 191 [.agg R1,.i .i64 c]=(GY a c).map λr=>.i .i64 r:=by
 obtain⟨rfl⟩:=H1;rw[Qp];simp -dsimp +contextual (maxSteps:=100000000) only[↓evA,eZ,simprocAttr,func191,f191,Qkd,lh,DO]
 try simp only[GY,eY]
 all_goals rfl
theorem WP(c){R1 a}[H1:EncR QJ R1 a]:CP T (n+5) 103 [.agg R1,.i .i64 c]=(EJ a c).map λr=>.tup [.agg (VC r.1),.b r.2]:=by
 obtain⟨rfl⟩:=H1;rw[Qp];simp -dsimp +contextual (maxSteps:=100000000) only[↓evA,eZ,simprocAttr,func103,f103,Qfh,kM,UC]
 try simp only[EJ,eY]
 all_goals rfl
theorem O9(a a3 a4){R1 o R2 a2}[H1:EncL Vr R1 o][H2:EncL Vr R2 a2]:LP T (n+1) 196 3 (frm [(1,.i .i64 a),(5,.sl 0),(9,.imm 5 R2),(10,.i .i64 a3),(11,.i .i64 a4)]) [some (Ent.lst 5 R1)] =
  (run (Fe a a2 a3) (o,a4)).map (λ(zr:(List Hand))=>(XE.exit 0,frm [(5,.sl 0)],[some (Ent.lst 5 (zr.map Vr))])):=by
 rcases H1,H2 with⟨⟨rfl⟩,⟨rfl⟩⟩
 rw[Qw];simp -dsimp only[↓evA,evB,Qt,func196,f196,Qaw,fh,TP,TZ,simprocAttr];apply QO o a4;intro o a4;simp -dsimp +contextual only[↓evA,eZ,simprocAttr]
 try simp only[Fe,eY]
 all_goals rfl
theorem Wy(a){R1 l}[H1:EncL Vr R1 l]:CP T (n+2) 196 [.imm 5 R1,.i .i64 a]=(FW l a).map λr=>.own 5 (r.map Vr):=by
 obtain⟨rfl⟩:=H1;rw[Qp];simp -dsimp +contextual only[↓evA,eZ,simprocAttr,func196,f196,Qaw,fh,O9]
 try simp only[FW,eY]
 all_goals first|rfl|(simp +contextual only[evN]<;>rfl)
theorem Pa(a):CP T (n+2) 197 [.i .i64 a]=(Bt a).map λr=>.s r:=by
 rw[Qp];simp -dsimp +contextual only[↓evA,eZ,simprocAttr,func197,f197,Qff,jt,QV]
 try simp only[Bt,eY]
 all_goals rfl
theorem PP(a2 a3){R1 o R2 a}[H1:EncL c_s R1 o][H2:EncL Vr R2 a]:LP T (n+3) 107 3 (frm [(5,.sl 0),(11,.sl 1),(12,.i .i64 a2),(13,.i .i64 a3)]) [some (Ent.lst 1 R1),some (Ent.lst 5 R2)] =
  (run (Bi a a2) (o,a3)).map (λ(zr:(List (List UInt8)))=>(XE.exit 0,frm [(5,.sl 0)],[some (Ent.lst 1 (zr.map c_s))])):=by
 rcases H1,H2 with⟨⟨rfl⟩,⟨rfl⟩⟩
 rw[Qw];simp -dsimp only[↓evA,evB,Qt,func107,f107,zR,cH,TP,TZ,simprocAttr];apply QO o a3;intro o a3;simp -dsimp +contextual only[↓evA,eZ,simprocAttr,Pa,XK]
 try simp only[Bi,eY]
 all_goals rfl
theorem Wi(a){R1 l}[H1:EncL Vr R1 l]:CP T (n+4) 107 [.imm 5 R1,.i .i64 a]=(Ez l a).map λr=>.s r:=by
 obtain⟨rfl⟩:=H1;rw[Qp];simp -dsimp +contextual only[↓evA,eZ,simprocAttr,func107,f107,zR,cH,Wy,Eg,PP]
 try simp only[Ez,eY]
 all_goals rfl
theorem S3(f):CP T (n+1) 109 [.i .i64 f]=(DE f).map λr=>.s r:=by
 rw[Qp];simp -dsimp +contextual only[↓evA,eZ,simprocAttr,func109,f109,QkX,mN]
 try simp only[DE,eY]
 all_goals rfl
theorem MI(a a3 a4){R1 o R2 a2}[H1:EncL QA R1 o][H2:EncL Q4 R2 a2]:LP T (n+6) 111 3 (frm [(1,.i .i64 a),(5,.sl 0),(9,.imm 8 R2),(10,.i .i64 a3),(11,.i .i64 a4)]) [some (Ent.lst 1 R1)] =
  (run (ZQ a a2 a3) (o,a4)).map (λ(zr:(List Int))=>(XE.exit 0,frm [(5,.sl 0)],[some (Ent.lst 1 (zr.map QA))])):=by
 rcases H1,H2 with⟨⟨rfl⟩,⟨rfl⟩⟩
 rw[Qw];simp -dsimp only[↓evA,evB,Qt,func111,f111,zj,dG,TP,TZ,simprocAttr];apply QO o a4;intro o a4;simp -dsimp +contextual only[↓evA,eZ,simprocAttr,Kh]
 try simp only[ZQ,eY]
 all_goals rfl
theorem RT(a){R1 l}[H1:EncL Q4 R1 l]:CP T (n+7) 111 [.imm 8 R1,.i .i64 a]=(Cl l a).map λr=>.own 1 (r.map QA):=by
 obtain⟨rfl⟩:=H1;rw[Qp];simp -dsimp +contextual only[↓evA,eZ,simprocAttr,func111,f111,zj,dG,MI]
 try simp only[Cl,eY]
 all_goals first|rfl|(simp +contextual only[evN]<;>rfl)
theorem Ov(a a2 a4 a5){R1 a3}[H1:EncL VL R1 a3]:LP T (n+1) 204 3 (frm [(1,.i .i64 a),(5,.i .i64 a2),(8,.imm 4 R1),(9,.i .i64 a4),(10,.i .i64 a5)]) [] =
  (run (Z5 a a3 a4) (a2,a5)).map (λ(zr:Int)=>(XE.exit 0,frm [(5,.i .i64 zr)],[])):=by
 obtain⟨rfl⟩:=H1;rw[Qw];simp -dsimp only[↓evA,evB,Qt,func204,f204,Qae,fi,TP,TZ,simprocAttr];apply QO a2 a5;intro a2 a5;simp -dsimp +contextual only[↓evA,eZ,simprocAttr]
 try simp only[Z5,eY]
 all_goals rfl
theorem Uy(a){R1 l}[H1:EncL VL R1 l]:CP T (n+2) 204 [.imm 4 R1,.i .i64 a]=(GW l a).map λr=>.i .i64 r:=by
 obtain⟨rfl⟩:=H1;rw[Qp];simp -dsimp +contextual only[↓evA,eZ,simprocAttr,func204,f204,Qae,fi,Ov]
 try simp only[GW,eY]
 all_goals rfl
theorem MT(a a2 a4 a5){R1 a3}[H1:EncL VL R1 a3]:LP T (n+1) 205 5 (frm [(1,.i .i64 a),(5,.i .i64 a2),(12,.imm 4 R1),(13,.i .i64 a4),(14,.i .i64 a5)]) [] =
  (run (JG a a3 a4) (a2,a5)).map (λ(zr:Int)=>(XE.exit 0,frm [(5,.i .i64 zr)],[])):=by
 obtain⟨rfl⟩:=H1;rw[Qw];simp -dsimp only[↓evA,evB,Qt,func205,f205,QaC,cT,TP,TZ,simprocAttr];apply QO a2 a5;intro a2 a5;simp -dsimp +contextual only[↓evA,eZ,simprocAttr]
 try simp only[JG,eY]
 all_goals rfl
theorem Rl(a){R1 l}[H1:EncL VL R1 l]:CP T (n+4) 205 [.imm 4 R1,.i .i64 a]=(F4 l a).map λr=>.i .i64 r:=by
 obtain⟨rfl⟩:=H1;rw[Qp];simp -dsimp +contextual only[↓evA,eZ,simprocAttr,func205,f205,QaC,cT,DV,MT]
 try simp only[F4,eY]
 all_goals rfl
theorem Hr(a){R1 l}[H1:EncL VL R1 l]:CP T (n+5) 113 [.imm 4 R1,.i .i64 a]=(Zu l a).map λr=>.i .i64 r:=by
 obtain⟨rfl⟩:=H1;rw[Qp];simp -dsimp +contextual only[↓evA,eZ,simprocAttr,func113,f113,Qj0,mh,DV,Uy,Rl]
 try simp only[Zu,eY]
 all_goals rfl
theorem NU(c):CP T (n+3) 112 [.i .i64 c]=(Cs c).map λr=>.s r:=by
 rw[Qp];simp -dsimp +contextual only[↓evA,eZ,simprocAttr,func112,f112,QmU,kQ,QV,XK]
 try simp only[Cs,eY]
 all_goals rfl
theorem K6(a2 a3){R1 o R2 a}[H1:EncL c_s R1 o][H2:EncL VD R2 a]:LP T (n+3) 114 3 (frm [(3,.sl 0),(8,.imm 3 R2),(9,.i .i64 a2),(10,.i .i64 a3)]) [some (Ent.lst 1 R1)] =
  (run (JT a a2) (o,a3)).map (λ(zr:(List (List UInt8)))=>(XE.exit 0,frm [(3,.sl 0)],[some (Ent.lst 1 (zr.map c_s))])):=by
 rcases H1,H2 with⟨⟨rfl⟩,⟨rfl⟩⟩
 rw[Qw];simp -dsimp only[↓evA,evB,Qt,func114,f114,QaJ,dv,TP,TZ,simprocAttr];apply QO o a3;intro o a3;simp -dsimp +contextual only[↓evA,eZ,simprocAttr,XK]
 try simp only[JT,eY]
 all_goals rfl
theorem NV{R1 l}[H1:EncL VD R1 l]:CP T (n+4) 114 [.imm 3 R1]=(AL l).map λr=>.s r:=by
 obtain⟨rfl⟩:=H1;rw[Qp];simp -dsimp +contextual only[↓evA,eZ,simprocAttr,func114,f114,QaJ,dv,HY,K6]
 try simp only[AL,eY]
 all_goals rfl
theorem I6(a2 a3){R1 o R2 a}[H1:EncL c_s R1 o][H2:EncL Qz R2 a]:LP T (n+3) 115 3 (frm [(3,.sl 0),(8,.imm 5 R2),(9,.i .i64 a2),(10,.i .i64 a3)]) [some (Ent.lst 1 R1)] =
  (run (Jx a a2) (o,a3)).map (λ(zr:(List (List UInt8)))=>(XE.exit 0,frm [(3,.sl 0)],[some (Ent.lst 1 (zr.map c_s))])):=by
 rcases H1,H2 with⟨⟨rfl⟩,⟨rfl⟩⟩
 rw[Qw];simp -dsimp only[↓evA,evB,Qt,func115,f115,QaK,cO,TP,TZ,simprocAttr];apply QO o a3;intro o a3;simp -dsimp +contextual only[↓evA,eZ,simprocAttr,QV,XK]
 try simp only[Jx,eY]
 all_goals rfl
theorem MW{R1 l}[H1:EncL Qz R1 l]:CP T (n+4) 115 [.imm 5 R1]=(ZV l).map λr=>.s r:=by
 obtain⟨rfl⟩:=H1;rw[Qp];simp -dsimp +contextual only[↓evA,eZ,simprocAttr,func115,f115,QaK,cO,HY,I6]
 try simp only[ZV,eY]
 all_goals rfl
theorem N0{R1 a}[H1:EncR QJ R1 a]:CP T (n+5) 116 [.agg R1]=(AM a).map λr=>.s r:=by
 obtain⟨rfl⟩:=H1;rw[Qp];simp -dsimp +contextual (maxSteps:=100000000) only[↓evA,eZ,simprocAttr,func116,f116,QlK,jz,D6]
 try simp only[AM,eY]
 all_goals rfl
theorem KZ(a3 a4){R1 a R2 i R3 a2}[H1:EncR QJ R1 a][H2:EncL QA R2 i][H3:EncL Q4 R3 a2]:LP T (n+5) 206 3 (frm [(1,.ptr 0 0 0),(3,.sl 1),(13,.imm 8 R3),(14,.i .i64 a3),(15,.i .i64 a4)]) [some (Ent.box R1),some (Ent.lst 1 R2)] =
  Xy (run (JS a i a2 a3) a4) (λ(zr:Bool)=>(XE.ret,frm [(2,.b zr)],[])) (λ(zr:Unit)=>(XE.exit 0,frm [],[])):=by
 rcases H1,H2,H3 with⟨⟨rfl⟩,⟨rfl⟩,⟨rfl⟩⟩
 rw[Qw];simp -dsimp only[↓evA,evB,Qt,func206,f206,Qax,cD,TP,TZ,simprocAttr];apply QB a4;intro a4;simp -dsimp +contextual (maxSteps:=100000000) only[↓evA,eZ,simprocAttr,GJ,Ah,DQ]
 try simp only[JS,eY]
 all_goals rfl
theorem Nr{R1 a}[H1:EncR QJ R1 a]:CP T (n+10) 206 [.agg R1]=(CD a).map λr=>.b r:=by
 obtain⟨rfl⟩:=H1;rw[Qp];simp -dsimp +contextual (maxSteps:=100000000) only[↓evA,eZ,simprocAttr,func206,f206,Qax,cD,Lc,KZ]
 try simp only[CD,eY]
 all_goals rfl
theorem OS{R1 c R2 c2}[H1:EncR Qz R1 c][H2:EncR Vr R2 c2]:CP T (n+1) 309 [.agg R1,.iptr 5 [R2] 0 0]=(Fn c c2).map λr=>.b r:=by
 rcases H1,H2 with⟨⟨rfl⟩,⟨rfl⟩⟩
 rw[Qp];simp -dsimp +contextual only[↓evA,eZ,simprocAttr,func309,f309,Qh1,mQ]
 try simp only[Fn,eY]
 all_goals rfl
theorem CC(a a2){R1 s R2 f}[H1:EncL Qz R1 s][H2:EncR Vr R2 f]:LP T (n+2) 192 2 (frm [(0,.imm 5 R1),(1,.clo 309 [.iptr 5 [R2] 0 0]),(7,.i .i64 a),(8,.i .i64 a2)]) [] =
  Xy (run (QZ s f a) a2) (λ(zr:Int)=>(XE.ret,frm [(4,.i .i64 zr)],[])) (λ(zr:Unit)=>(XE.exit 0,frm [],[])):=by
 rcases H1,H2 with⟨⟨rfl⟩,⟨rfl⟩⟩
 rw[Qw];simp -dsimp only[↓evA,evB,Qt,func192,f192,SL,Ld,TP,TZ,simprocAttr];apply QB a2;intro a2;simp -dsimp +contextual only[↓evA,eZ,simprocAttr,OS]
 try simp only[QZ,eY]
 all_goals rfl
theorem Du{R1 s R2 c}[H1:EncL Qz R1 s][H2:EncR Vr R2 c]:CP T (n+3) 192 [.imm 5 R1,.clo 309 [.iptr 5 [R2] 0 0]]=(VT s c).map λr=>.i .i64 r:=by
 rcases H1,H2 with⟨⟨rfl⟩,⟨rfl⟩⟩
 rw[Qp];simp -dsimp +contextual only[↓evA,eZ,simprocAttr,func192,f192,SL,Ld,CC]
 try simp only[VT,eY]
 all_goals rfl
theorem Cc{R1 s R2 c}[H1:EncL Qz R1 s][H2:EncR Vr R2 c]:CP T (n+4) 201 [.imm 5 R1,.clo 309 [.iptr 5 [R2] 0 0]]=(Vc s c).map λr=>.b r:=by
 rcases H1,H2 with⟨⟨rfl⟩,⟨rfl⟩⟩
 rw[Qp];simp -dsimp +contextual only[↓evA,eZ,simprocAttr,func201,f201,tt,Y8,Du]
 try simp only[Vc,eY]
 all_goals rfl
theorem KE{R1 a R2 a2}[H1:EncR QJ R1 a][H2:EncR Vr R2 a2]:CP T (n+5) 281 [.agg R1,.agg R2]=(DL a a2).map λr=>.b r:=by
 rcases H1,H2 with⟨⟨rfl⟩,⟨rfl⟩⟩
 rw[Qp];simp -dsimp +contextual (maxSteps:=100000000) only[↓evA,eZ,simprocAttr,func281,f281,Ql6,lB,Cc]
 try simp only[DL,eY]
 all_goals rfl
theorem MO(a3 a4){R1 a R2 a2}[H1:EncR QJ R1 a][H2:EncL Vr R2 a2]:LP T (n+6) 207 2 (frm [(1,.ptr 0 0 0),(7,.imm 5 R2),(8,.i .i64 a3),(9,.i .i64 a4)]) [some (Ent.box R1)] =
  Xy (run (ZX a a2 a3) a4) (λ(zr:Bool)=>(XE.ret,frm [(2,.b zr)],[])) (λ(zr:Unit)=>(XE.exit 0,frm [],[])):=by
 rcases H1,H2 with⟨⟨rfl⟩,⟨rfl⟩⟩
 rw[Qw];simp -dsimp only[↓evA,evB,Qt,func207,f207,zG,ej,TP,TZ,simprocAttr];apply QB a4;intro a4;simp -dsimp +contextual (maxSteps:=100000000) only[↓evA,eZ,simprocAttr,KE,Jq]
 try simp only[ZX,eY]
 all_goals rfl
theorem RS{R1 a}[H1:EncR QJ R1 a]:CP T (n+7) 207 [.agg R1]=(Eb a).map λr=>.b r:=by
 obtain⟨rfl⟩:=H1;rw[Qp];simp -dsimp +contextual (maxSteps:=100000000) only[↓evA,eZ,simprocAttr,func207,f207,zG,ej,MO]
 try simp only[Eb,eY]
 all_goals rfl
theorem Ka(a3 a4){R1 a R2 a2}[H1:EncR QJ R1 a][H2:EncL Vr R2 a2]:LP T (n+6) 208 2 (frm [(1,.ptr 0 0 0),(7,.imm 5 R2),(8,.i .i64 a3),(9,.i .i64 a4)]) [some (Ent.box R1)] =
  Xy (run (Jr a a2 a3) a4) (λ(zr:Bool)=>(XE.ret,frm [(2,.b zr)],[])) (λ(zr:Unit)=>(XE.exit 0,frm [],[])):=by
 rcases H1,H2 with⟨⟨rfl⟩,⟨rfl⟩⟩
 rw[Qw];simp -dsimp only[↓evA,evB,Qt,func208,f208,Qah,eG,TP,TZ,simprocAttr];apply QB a4;intro a4;simp -dsimp +contextual (maxSteps:=100000000) only[↓evA,eZ,simprocAttr,KE,Jq,Kh]
 try simp only[Jr,eY]
 all_goals rfl
theorem M2{R1 a}[H1:EncR QJ R1 a]:CP T (n+7) 208 [.agg R1]=(BQ a).map λr=>.b r:=by
 obtain⟨rfl⟩:=H1;rw[Qp];simp -dsimp +contextual (maxSteps:=100000000) only[↓evA,eZ,simprocAttr,func208,f208,Qah,eG,Ka]
 try simp only[BQ,eY]
 all_goals rfl
theorem I4(s2 a2 a3){R1 s R2 a}[H1:EncL H0 R1 s][H2:EncL H0 R2 a]:LP T (n+1) 325 3 (frm [(0,.imm 1 R1),(3,.i .i64 s2),(9,.imm 1 R2),(10,.i .i64 a2),(11,.i .i64 a3)]) [] =
  (run (VX s a a2) (s2,a3)).map (λ(zr:Int)=>(XE.exit 0,frm [(0,.imm 1 (s.map H0)),(3,.i .i64 zr)],[])):=by
 rcases H1,H2 with⟨⟨rfl⟩,⟨rfl⟩⟩
 rw[Qw];simp -dsimp only[↓evA,evB,Qt,func325,f325,tH,Yz,TP,TZ,simprocAttr];apply QO s2 a3;intro s2 a3;simp -dsimp +contextual only[↓evA,eZ,simprocAttr]
 try simp only[VX,eY]
 all_goals rfl
theorem IM(a3 a4){R1 a R2 a2}[H1:EncL QA R1 a][H2:EncL H0 R2 a2]:LP T (n+1) 325 11 (frm [(6,.sl 0),(25,.imm 1 R2),(26,.i .i64 a3),(27,.i .i64 a4)]) [some (Ent.lst 1 R1)] =
  (run (Xq a2 a3) (a,a4)).map (λ(zr:(List Int))=>(XE.exit 2,frm [(6,.sl 0)],[some (Ent.lst 1 (zr.map QA))])):=by
 rcases H1,H2 with⟨⟨rfl⟩,⟨rfl⟩⟩
 rw[Qw];simp -dsimp only[↓evA,evB,Qt,func325,f325,tH,Yz,TP,TZ,simprocAttr];apply QO a a4;intro a a4;simp -dsimp +contextual only[↓evA,eZ,simprocAttr]
 try simp only[Xq,eY]
 all_goals rfl
theorem M6{R1 s}[H1:EncL H0 R1 s]:CP T (n+2) 325 [.imm 1 R1]=(BI s).map λr=>.own 1 (r.map QA):=by
 obtain⟨rfl⟩:=H1;rw[Qp];simp -dsimp +contextual only[↓evA,eZ,simprocAttr,func325,f325,tH,Yz,O6,I4,IM]
 try simp only[BI,eY]
 all_goals first|rfl|(simp +contextual only[evN]<;>rfl)
theorem RM{R1 a}[H1:EncL QA R1 a]:CP T (n+3) 310 [.imm 1 R1,.nil]=(FH a).map λr=>.own 1 (r.map QA):=by
 obtain⟨rfl⟩:=H1;rw[Qp];simp -dsimp +contextual only[↓evA,eZ,simprocAttr,func310,f310,QfZ,lZ,srt,M6]
 try simp only[FH,eY]
 all_goals first|rfl|(simp +contextual only[evN]<;>rfl)
theorem Lo(a2 a3){R1 o R2 a}[H1:EncL QA R1 o][H2:EncL VL R2 a]:LP T (n+1) 282 3 (frm [(3,.sl 0),(7,.imm 4 R2),(8,.i .i64 a2),(9,.i .i64 a3)]) [some (Ent.lst 1 R1)] =
  (run (Jn a a2) (o,a3)).map (λ(zr:(List Int))=>(XE.exit 0,frm [(3,.sl 0)],[some (Ent.lst 1 (zr.map QA))])):=by
 rcases H1,H2 with⟨⟨rfl⟩,⟨rfl⟩⟩
 rw[Qw];simp -dsimp only[↓evA,evB,Qt,func282,f282,y8,fb,TP,TZ,simprocAttr];apply QO o a3;intro o a3;simp -dsimp +contextual only[↓evA,eZ,simprocAttr]
 try simp only[Jn,eY]
 all_goals rfl
theorem OB{R1 l}[H1:EncL VL R1 l]:CP T (n+4) 282 [.imm 4 R1]=(Bj l).map λr=>.own 1 (r.map QA):=by
 obtain⟨rfl⟩:=H1;rw[Qp];simp -dsimp +contextual only[↓evA,eZ,simprocAttr,func282,f282,y8,fb,RM,Lo]
 try simp only[Bj,eY]
 all_goals first|rfl|(simp +contextual only[evN]<;>rfl)
theorem L5(s a3 a4){R1 a R2 a2}[H1:EncR QJ R1 a][H2:EncL QA R2 a2]:LP T (n+6) 209 3 (frm [(1,.ptr 0 0 0),(3,.i .i64 s),(8,.sl 1),(9,.i .i64 a3),(10,.i .i64 a4)]) [some (Ent.box R1),some (Ent.lst 1 R2)] =
  (run (XA a a2 a3) (s,a4)).map (λ(zr:Int)=>(XE.exit 0,frm [(1,.ptr 0 0 0),(3,.i .i64 zr)],[some (Ent.box (QJ a))])):=by
 rcases H1,H2 with⟨⟨rfl⟩,⟨rfl⟩⟩
 rw[Qw];simp -dsimp only[↓evA,evB,Qt,func209,f209,zo,cG,TP,TZ,simprocAttr];apply QO s a4;intro s a4;simp -dsimp +contextual (maxSteps:=100000000) only[↓evA,eZ,simprocAttr,Hr]
 try simp only[XA,eY]
 all_goals rfl
theorem Pz{R1 a}[H1:EncR QJ R1 a]:CP T (n+7) 209 [.agg R1]=(Dk a).map λr=>.b r:=by
 obtain⟨rfl⟩:=H1;rw[Qp];simp -dsimp +contextual (maxSteps:=100000000) only[↓evA,eZ,simprocAttr,func209,f209,zo,cG,OB,Hr,L5]
 try simp only[Dk,eY]
 all_goals rfl
theorem Ua{R1 a}[H1:EncR QJ R1 a]:CP T (n+12) 117 [.agg R1]=(Ew a).map λr=>.s r:=by
 obtain⟨rfl⟩:=H1;rw[Qp];simp -dsimp +contextual (maxSteps:=100000000) only[↓evA,eZ,simprocAttr,func117,f117,Qjk,kw,ZH,Nr,RS,M2,Pz]
 try simp only[Ew,eY]
 all_goals rfl
theorem dy(w){R1 a R2 a2}[H1:EncR QJ R1 a][H2:EncL QA R2 a2]:CP T (n+13) 36 [.agg R1,.s w,.imm 1 R2]=(Cr a w a2).map λr=>.s r:=by
 rcases H1,H2 with⟨⟨rfl⟩,⟨rfl⟩⟩
 rw[Qp];simp -dsimp +contextual (maxSteps:=100000000) only[↓evA,eZ,Nat.reduceAdd,Nat.reduceMul,Nat.reduceBEq,Nat.reduceLeDiff,Nat.reduceLT,func36,f36,QrV,xf,WP,AN,G6,GR,XK,Wi,Jq,Ia,S3,RT,D6,Hr,NU,NV,MW,N0,Ua]
 try simp only[Cr,eY]
 try simp only[List.contains_nil,Qi,Bool.and_true,Vx,List.length_append,List.length_cons,List.length_nil,Nat.zero_add,Vn,VJ]
 all_goals rfl
theorem K9(l a3 a4){R1 a R2 w R3 a2}[H1:EncR QJ R1 a][H2:EncL c_s R2 w][H3:EncL c_s R3 a2]:LP T (n+1) 11 3 (frm [(1,.s l),(2,.ptr 0 0 0),(4,.ptr 1 0 0),(6,.sl 2),(18,.sl 3),(19,.i .i64 a3),(20,.i .i64 a4)]) [some (Ent.box R1),some (Ent.box [.i .i64 0,.nil,.nil,.nil,.nil,.nil,.nil,.nil,.i .i64 0]),some (Ent.lst 1 R2),some (Ent.lst 1 R3)] =
  (run (XT l a a2 a3) (w,a4)).map (λ(zr:(List (List UInt8)))=>(XE.exit 0,frm [(1,.s l),(2,.ptr 0 0 0),(4,.ptr 1 0 0),(6,.sl 2)],[some (Ent.box (QJ a)),some (Ent.box [.i .i64 0,.nil,.nil,.nil,.nil,.nil,.nil,.nil,.i .i64 0]),some (Ent.lst 1 (zr.map c_s))])):=by
 rcases H1,H2,H3 with⟨⟨rfl⟩,⟨rfl⟩,⟨rfl⟩⟩
 rw[Qw];simp -dsimp only[↓evA,evB,Qt,func11,f11,Qf2,uu,TP,TZ,simprocAttr];apply QO w a4;intro w a4;simp -dsimp +contextual (maxSteps:=100000000) only[↓evA,eZ,simprocAttr]
 try simp only[XT,eY]
 try simp only[List.contains_nil,Qi,Bool.and_true,Vx,List.length_append,List.length_cons,List.length_nil,Nat.zero_add,Vn,VJ]
 all_goals rfl
theorem NH(l){R1 a}[H1:EncR QJ R1 a]:CP T (n+15) 11 [.agg R1,.s l]=(AK a l).map λr=>.tup [.agg (VW r.1),.s r.2]:=by
 obtain⟨rfl⟩:=H1;rw[Qp];simp -dsimp +contextual (maxSteps:=100000000) only[↓evA,eZ,Nat.reduceAdd,Nat.reduceMul,Nat.reduceBEq,Nat.reduceLeDiff,Nat.reduceLT,func11,f11,Qf2,uu,Qi,Qh,Fc,b9,VM,Eg,NR,ON,D6,Sd,U6,dy,K9]
 try simp only[AK,eY]
 try simp only[List.contains_nil,Qi,Bool.and_true,Vx,List.length_append,List.length_cons,List.length_nil,Nat.zero_add,Vn,VJ]
 all_goals rfl
theorem LI(axNo axNow a3 a4){R1 axFinds R2 axSecrets R3 axSlots R4 axClaims R5 axTrials R6 axChain R7 axBook R8 o R9 a2}[H1:EncL Q4 R1 axFinds][H2:EncL Vk R2 axSecrets][H3:EncL VD R3 axSlots][H4:EncL Qz R4 axClaims][H5:EncL VC R5 axTrials][H6:EncL Vr R6 axChain][H7:EncL VL R7 axBook][H8:EncL c_s R8 o][H9:EncL c_s R9 a2]:LP T (n+16) 5 8 (frm [(5,.ptr 0 0 0),(6,.sl 8),(29,.imm 1 R9),(30,.i .i64 a3),(31,.i .i64 a4)]) [some (Ent.box [.i .i64 axNo,.sl 1,.sl 2,.sl 3,.sl 4,.sl 5,.sl 6,.sl 7,.i .i64 axNow]),some (Ent.lst 8 R1),some (Ent.lst 3 R2),some (Ent.lst 3 R3),some (Ent.lst 5 R4),some (Ent.lst 4 R5),some (Ent.lst 5 R6),some (Ent.lst 4 R7),some (Ent.lst 1 R8)] =
  (run (V4 a2 a3) ((⟨axNo,axFinds,axSecrets,axSlots,axClaims,axTrials,axChain,axBook,axNow⟩:House),o,a4)).map (λ(zr:(List (List UInt8)))=>(XE.exit 0,frm [(6,.sl 0)],[some (Ent.lst 1 (zr.map c_s))])):=by
 rcases H1,H2,H3,H4,H5,H6,H7,H8,H9 with⟨⟨rfl⟩,⟨rfl⟩,⟨rfl⟩,⟨rfl⟩,⟨rfl⟩,⟨rfl⟩,⟨rfl⟩,⟨rfl⟩,⟨rfl⟩⟩
 rw[Qw];simp -dsimp only[↓evA,evB,Qt,func5,f5,Aa5,An5,TP,TZ,simprocAttr];refine run_map (λ(zs:House×(List (List UInt8))×Int)=>(frm [(5,.ptr 0 0 0),(6,.sl 8),(29,.imm 1 (a2.map c_s)),(30,.i .i64 a3),(31,.i .i64 zs.2.2)],[some (Ent.box [.i .i64 zs.1.No,.sl 1,.sl 2,.sl 3,.sl 4,.sl 5,.sl 6,.sl 7,.i .i64 zs.1.Now]),some (Ent.lst 8 (zs.1.Finds.map Q4)),some (Ent.lst 3 (zs.1.Secrets.map Vk)),some (Ent.lst 3 (zs.1.Slots.map VD)),some (Ent.lst 5 (zs.1.Claims.map Qz)),some (Ent.lst 4 (zs.1.Trials.map VC)),some (Ent.lst 5 (zs.1.Chain.map Vr)),some (Ent.lst 4 (zs.1.Book.map VL)),some (Ent.lst 1 (zs.2.1.map c_s))])) _ ?_ ((⟨axNo,axFinds,axSecrets,axSlots,axClaims,axTrials,axChain,axBook,axNow⟩:House),o,a4)
 rintro⟨a,o,a4⟩;simp -dsimp +contextual (maxSteps:=100000000) only[↓evA,eZ,simprocAttr,NH]
 try simp only[V4,eY]
 all_goals rfl
theorem OZ(a):CP T (n+17) 5 [.s a]=(Z9 a).map λr=>.tup [.own 1 (r.1.map c_s),.b r.2]:=by
 rw[Qp];simp -dsimp +contextual only[↓evA,eZ,simprocAttr,func5,f5,Aa5,An5,Fc,LI]
 try simp only[Z9,eY]
 all_goals first|rfl|(simp +contextual only[evN]<;>rfl)
theorem M4(i){R1 a R2 b}[H1:EncL c_s R1 a][H2:EncL c_s R2 b]:LP T (n+1) 6 4 (frm [(0,.imm 1 R1),(1,.imm 1 R2),(5,.i .i64 i)]) [] =
  Xy (run (ZS a b) i) (λ(zr:Bool)=>(XE.ret,frm [(4,.b zr)],[])) (λ(zr:Unit)=>(XE.exit 0,frm [],[])):=by
 rcases H1,H2 with⟨⟨rfl⟩,⟨rfl⟩⟩
 rw[Qw];simp -dsimp only[↓evA,evB,Qt,func6,f6,Aa6,An6,TP,TZ,simprocAttr];apply QB i;intro i;simp -dsimp +contextual only[↓evA,eZ,simprocAttr]
 try simp only[ZS,eY]
 all_goals rfl
theorem RK{R1 a R2 b}[H1:EncL c_s R1 a][H2:EncL c_s R2 b]:CP T (n+2) 6 [.imm 1 R1,.imm 1 R2]=(Cn a b).map λr=>.b r:=by
 rcases H1,H2 with⟨⟨rfl⟩,⟨rfl⟩⟩
 rw[Qp];simp -dsimp +contextual only[↓evA,eZ,simprocAttr,func6,f6,Aa6,An6,M4]
 try simp only[Cn,eY]
 all_goals rfl
theorem NT(k o):LP T (n+1) 12 4 (frm [(0,.i .i64 k),(3,.s o)]) [] =
  (run Zp (k,o)).map (λ(zr:(List UInt8))=>(XE.exit 0,frm [(3,.s zr)],[])):=by
 rw[Qw];simp -dsimp only[↓evA,evB,Qt,func12,f12,Qix,uB,TP,TZ,simprocAttr];apply QO k o;intro k o;simp -dsimp +contextual only[↓evA,eZ,simprocAttr]
 try simp only[Zp,eY]
 all_goals rfl
theorem Ks(k):CP T (n+2) 12 [.i .i64 k]=(Aw k).map λr=>.s r:=by
 rw[Qp];simp -dsimp +contextual only[↓evA,eZ,simprocAttr,func12,f12,Qix,uB,NT]
 try simp only[Aw,eY]
 all_goals rfl
theorem KU(k i){R1 a}[H1:EncL c_s R1 a]:LP T (n+3) 7 2 (frm [(0,.sl 0),(1,.i .i64 k),(5,.i .i64 i)]) [some (Ent.lst 1 R1)] =
  (run JU (a,k,i)).map (λ(zr:(List (List UInt8))×Int)=>(XE.exit 0,frm [(0,.sl 0),(1,.i .i64 zr.2)],[some (Ent.lst 1 (zr.1.map c_s))])):=by
 obtain⟨rfl⟩:=H1;rw[Qw];simp -dsimp only[↓evA,evB,Qt,func7,f7,Aa7,An7,TP,TZ,simprocAttr];apply E7 a k i;intro a k i;simp -dsimp +contextual only[↓evA,eZ,simprocAttr,Ks]
 try simp only[JU,eY]
 all_goals rfl
theorem Nn(k){R1 a}[H1:EncL c_s R1 a]:CA T (n+4) 7 [some (Ent.lst 1 R1)] [.sl 0,.i .i64 k]=(Co a k).map λr=>(.i .i64 r.2,[some (Ent.lst 1 (r.1.map c_s))]):=by
 obtain⟨rfl⟩:=H1;rw[mp];simp -dsimp +contextual only[↓evA,eZ,simprocAttr,func7,f7,Aa7,An7,KU]
 try simp only[Co,eY]
 all_goals rfl
theorem KP(k i){R1 a}[H1:EncL c_s R1 a]:LP T (n+3) 8 2 (frm [(0,.imm 1 R1),(1,.i .i64 k),(5,.i .i64 i)]) [] =
  Xy (run (XS a) (k,i)) (λ(zr:Int)=>(XE.ret,frm [(4,.i .i64 zr)],[])) (λ(zr:Int)=>(XE.exit 0,frm [(1,.i .i64 zr)],[])):=by
 obtain⟨rfl⟩:=H1;rw[Qw];simp -dsimp only[↓evA,evB,Qt,func8,f8,Aa8,An8,TP,TZ,simprocAttr];apply QO k i;intro k i;simp -dsimp +contextual only[↓evA,eZ,simprocAttr,Ks]
 try simp only[XS,eY]
 all_goals rfl
theorem Nx(k){R1 a}[H1:EncL c_s R1 a]:CP T (n+4) 8 [.imm 1 R1,.i .i64 k]=(AH a k).map λr=>.i .i64 r:=by
 obtain⟨rfl⟩:=H1;rw[Qp];simp -dsimp +contextual only[↓evA,eZ,simprocAttr,func8,f8,Aa8,An8,KP]
 try simp only[AH,eY]
 all_goals rfl
end Go.Proofs.YtoilkmgiofimjaaGreatDoor
