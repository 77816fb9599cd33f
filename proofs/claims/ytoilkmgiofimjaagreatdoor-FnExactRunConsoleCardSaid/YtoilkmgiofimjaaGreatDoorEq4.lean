import Derived.Test.YtoilkmgiofimjaaGreatDoorEq3
namespace Go.Proofs.YtoilkmgiofimjaaGreatDoor
open Go Go.Proofs Go.Proofs.YtoilkmgiofimjaaGreatDoor.Am Tryz
set_option maxHeartbeats 4000000
set_option linter.unusedVariables false
set_option linter.unusedSimpArgs false
set_option linter.defProp false
set_option maxRecDepth 100000
variable(n:Nat)
theorem S0(a b):CP T (n+3) 165 [.i .i64 a,.i .i64 b]=(DC a b).map λr=>.s r:=by
 rw[Qp];simp -dsimp +contextual only[↓evA,eZ,simprocAttr,func165,f165,QnD,kt,XK]
 try simp only[DC,eY]
 all_goals rfl
theorem OX{R1 r}[H1:EncR CU R1 r]:CP T (n+5) 86 [.agg R1]=(Dl r).map λr=>.s r:=by
 obtain⟨rfl⟩:=H1;rw[Qp];simp -dsimp +contextual only[↓evA,eZ,simprocAttr,func86,f86,Qqb,xB,KH,XK,Ku,Tg,S0,Eg]
 try simp only[Dl,eY]
 all_goals rfl
theorem NR(s):CP T (n+6) 30 [.s s]=(Jt s).map λr=>.tup [.agg (IN r.1),.b r.2]:=by
 rw[Qp];simp -dsimp +contextual only[↓evA,eZ,Nat.reduceAdd,Nat.reduceMul,Nat.reduceBEq,Nat.reduceLeDiff,Nat.reduceLT,func30,f30,Qsj,wi,Fc,Fb,RQ,Sj,M8,OX]
 try simp only[Jt,eY]
 all_goals rfl
theorem Hi{R1 a}[H1:EncR ER R1 a]:CP T (n+2) 244 [.agg R1]=(BK a).map λr=>.b r:=by
 obtain⟨rfl⟩:=H1;rw[Qp];simp -dsimp +contextual only[↓evA,eZ,simprocAttr,func244,f244,Qmd,lS,QV]
 try simp only[BK,eY]
 all_goals rfl
theorem Gr{R1 f}[H1:EncR Q4 R1 f]:CP T (n+3) 169 [.agg R1]=(AF f).map λr=>.b r:=by
 obtain⟨rfl⟩:=H1;rw[Qp];simp -dsimp +contextual only[↓evA,eZ,simprocAttr,func169,f169,Qk0,km,Hi,QV]
 try simp only[AF,eY]
 all_goals rfl
theorem Nk(a2 a3){R1 l R2 a}[H1:EncL Q4 R1 l][H2:EncL Q4 R2 a]:LP T (n+4) 92 4 (frm [(0,.imm 8 R1),(8,.imm 8 R2),(9,.i .i64 a2),(10,.i .i64 a3)]) [] =
  Xy (run (AR l a a2) a3) (λ(zr:Bool)=>(XE.ret,frm [(2,.b zr)],[])) (λ(zr:Unit)=>(XE.exit 0,frm [],[])):=by
 rcases H1,H2 with⟨⟨rfl⟩,⟨rfl⟩⟩
 rw[Qw];simp -dsimp only[↓evA,evB,Qt,func92,f92,QlA,qw,TP,TZ,simprocAttr];apply QB a3;intro a3;simp -dsimp +contextual only[↓evA,eZ,simprocAttr,Gr]
 try simp only[AR,eY]
 all_goals rfl
theorem GO{R1 l}[H1:EncL Q4 R1 l]:CP T (n+5) 92 [.imm 8 R1]=(AB l).map λr=>.b r:=by
 obtain⟨rfl⟩:=H1;rw[Qp];simp -dsimp +contextual only[↓evA,eZ,simprocAttr,func92,f92,QlA,qw,Nk]
 try simp only[AB,eY]
 all_goals rfl
theorem KQ(v a a2){R1 s}[H1:EncL QA R1 s]:LP T (n+1) 308 2 (frm [(0,.imm 1 R1),(1,.i .i64 v),(7,.i .i64 a),(8,.i .i64 a2)]) [] =
  Xy (run (JX s v a) a2) (λ(zr:Int)=>(XE.ret,frm [(4,.i .i64 zr)],[])) (λ(zr:Unit)=>(XE.exit 0,frm [],[])):=by
 obtain⟨rfl⟩:=H1;rw[Qw];simp -dsimp only[↓evA,evB,Qt,func308,f308,QaT,cP,TP,TZ,simprocAttr];apply QB a2;intro a2;simp -dsimp +contextual only[↓evA,eZ,simprocAttr]
 try simp only[JX,eY]
 all_goals rfl
theorem Nq(v){R1 s}[H1:EncL QA R1 s]:CP T (n+2) 308 [.imm 1 R1,.i .i64 v]=(Et s v).map λr=>.i .i64 r:=by
 obtain⟨rfl⟩:=H1;rw[Qp];simp -dsimp +contextual only[↓evA,eZ,simprocAttr,func308,f308,QaT,cP,KQ]
 try simp only[Et,eY]
 all_goals rfl
theorem DQ(v){R1 s}[H1:EncL QA R1 s]:CP T (n+3) 280 [.imm 1 R1,.i .i64 v]=(XQ s v).map λr=>.b r:=by
 obtain⟨rfl⟩:=H1;rw[Qp];simp -dsimp +contextual only[↓evA,eZ,simprocAttr,func280,f280,QeS,lC,Nq]
 try simp only[XQ,eY]
 all_goals rfl
theorem Yd(a){R1 l}[H1:EncL QA R1 l]:CP T (n+4) 245 [.imm 1 R1,.i .i64 a]=(Fx l a).map λr=>.b r:=by
 obtain⟨rfl⟩:=H1;rw[Qp];simp -dsimp +contextual only[↓evA,eZ,simprocAttr,func245,f245,QnF,lj,DQ]
 try simp only[Fx,eY]
 all_goals rfl
theorem W6{R1 r R2 f}[H1:EncR CU R1 r][H2:EncR Q4 R2 f]:CP T (n+5) 170 [.agg R1,.agg R2]=(GC r f).map λr=>.s r:=by
 rcases H1,H2 with⟨⟨rfl⟩,⟨rfl⟩⟩
 rw[Qp];simp -dsimp +contextual only[↓evA,eZ,simprocAttr,func170,f170,QeZ,kP,KH,Gr,Yd,QV]
 try simp only[GC,eY]
 all_goals rfl
theorem bp{R1 r R2 f}[H1:EncR CU R1 r][H2:EncR Q4 R2 f]:CP T (n+6) 93 [.agg R1,.agg R2]=(BS r f).map λr=>.b r:=by
 rcases H1,H2 with⟨⟨rfl⟩,⟨rfl⟩⟩
 rw[Qp];simp -dsimp +contextual only[↓evA,eZ,simprocAttr,func93,f93,QpW,yh,W6]
 try simp only[BS,eY]
 all_goals rfl
theorem Ll(a2 a3){R1 r R2 o R3 a}[H1:EncR CU R1 r][H2:EncL QA R2 o][H3:EncL Q4 R3 a]:LP T (n+7) 33 5 (frm [(2,.ptr 0 0 0),(5,.sl 1),(13,.imm 8 R3),(14,.i .i64 a2),(15,.i .i64 a3)]) [some (Ent.box R1),some (Ent.lst 1 R2)] =
  (run (Zi r a a2) (o,a3)).map (λ(zr:(List Int))=>(XE.exit 0,frm [(5,.sl 0)],[some (Ent.lst 1 (zr.map QA))])):=by
 rcases H1,H2,H3 with⟨⟨rfl⟩,⟨rfl⟩,⟨rfl⟩⟩
 rw[Qw];simp -dsimp only[↓evA,evB,Qt,func33,f33,Qfp,rD,TP,TZ,simprocAttr];apply QO o a3;intro o a3;simp -dsimp +contextual only[↓evA,eZ,simprocAttr,bp]
 try simp only[Zi,eY]
 all_goals rfl
theorem ON{R1 r R2 l}[H1:EncR CU R1 r][H2:EncL Q4 R2 l]:CP T (n+8) 33 [.agg R1,.imm 8 R2]=(Bm r l).map λr=>.own 1 (r.map QA):=by
 rcases H1,H2 with⟨⟨rfl⟩,⟨rfl⟩⟩
 rw[Qp];simp -dsimp +contextual only[↓evA,eZ,simprocAttr,func33,f33,Qfp,rD,GO,Ll]
 try simp only[Bm,eY]
 all_goals first|rfl|(simp +contextual only[evN]<;>rfl)
theorem HY{R1 l}[H1:EncL c_s R1 l]:CP T (n+2) 91 [.imm 1 R1]=(D7 l).map λr=>.s r:=by
 obtain⟨rfl⟩:=H1;rw[Qp];simp -dsimp +contextual only[↓evA,eZ,simprocAttr,func91,f91,QrW,uG,Eg]
 try simp only[D7,eY]
 all_goals rfl
theorem Is(a2 a3){R1 o R2 a}[H1:EncL c_s R1 o][H2:EncL QA R2 a]:LP T (n+3) 32 3 (frm [(3,.sl 0),(7,.imm 1 R2),(8,.i .i64 a2),(9,.i .i64 a3)]) [some (Ent.lst 1 R1)] =
  (run (XY a a2) (o,a3)).map (λ(zr:(List (List UInt8)))=>(XE.exit 0,frm [(3,.sl 0)],[some (Ent.lst 1 (zr.map c_s))])):=by
 rcases H1,H2 with⟨⟨rfl⟩,⟨rfl⟩⟩
 rw[Qw];simp -dsimp only[↓evA,evB,Qt,func32,f32,Qfy,pD,TP,TZ,simprocAttr];apply QO o a3;intro o a3;simp -dsimp +contextual only[↓evA,eZ,simprocAttr,XK]
 try simp only[XY,eY]
 all_goals rfl
theorem D6{R1 l}[H1:EncL QA R1 l]:CP T (n+4) 32 [.imm 1 R1]=(Xl l).map λr=>.s r:=by
 obtain⟨rfl⟩:=H1;rw[Qp];simp -dsimp +contextual only[↓evA,eZ,simprocAttr,func32,f32,Qfy,pD,HY,Is]
 try simp only[Xl,eY]
 all_goals rfl
theorem MG(a2 a3){R1 w R2 o R3 a}[H1:EncL c_s R1 w][H2:EncL QA R2 o][H3:EncL c_s R3 a]:LP T (n+5) 34 3 (frm [(0,.imm 1 R1),(4,.sl 0),(11,.imm 1 R3),(12,.i .i64 a2),(13,.i .i64 a3)]) [some (Ent.lst 1 R2)] =
  Xy (run (V1 w a a2) (o,a3)) (λ(zr:(List Int)×Bool)=>(XE.ret,frm [(2,.sl 0),(3,.b zr.2)],[some (Ent.lst 1 (zr.1.map QA))])) (λ(zr:(List Int))=>(XE.exit 0,frm [(4,.sl 0)],[some (Ent.lst 1 (zr.map QA))])):=by
 rcases H1,H2,H3 with⟨⟨rfl⟩,⟨rfl⟩,⟨rfl⟩⟩
 rw[Qw];simp -dsimp only[↓evA,evB,Qt,func34,f34,Qe4,tG,TP,TZ,Nat.reduceAdd,Nat.reduceMul,Nat.reduceBEq,Nat.reduceLeDiff,Nat.reduceLT];apply QO o a3;intro o a3;simp -dsimp +contextual only[↓evA,eZ,Nat.reduceAdd,Nat.reduceMul,Nat.reduceBEq,Nat.reduceLeDiff,Nat.reduceLT,Fb,M8]
 try simp only[V1,eY]
 all_goals rfl
theorem Sd{R1 w}[H1:EncL c_s R1 w]:CP T (n+6) 34 [.imm 1 R1]=(ZI w).map λr=>.tup [.own 1 (r.1.map QA),.b r.2]:=by
 obtain⟨rfl⟩:=H1;rw[Qp];simp -dsimp +contextual only[↓evA,eZ,simprocAttr,func34,f34,Qe4,tG,MG]
 try simp only[ZI,eY]
 all_goals first|rfl|(simp +contextual only[evN]<;>rfl)
theorem Mz:CP T (n+1) 95 []=(impl_ExampleSlots).map λr=>.own 3 (r.map VD):=by
 rw[Qp];simp -dsimp +contextual only[↓evA,eZ,simprocAttr,func95,f95,QqH,vg]
 try simp only[impl_ExampleSlots,eY]
 all_goals first|rfl|(simp +contextual only[evN]<;>rfl)
theorem Oh(a2 a3){R1 l R2 a}[H1:EncL X5 R1 l][H2:EncL X5 R2 a]:LP T (n+2) 266 4 (frm [(0,.imm 2 R1),(8,.imm 2 R2),(9,.i .i64 a2),(10,.i .i64 a3)]) [] =
  Xy (run (AQ l a a2) a3) (λ(zr:Bool)=>(XE.ret,frm [(2,.b zr)],[])) (λ(zr:Unit)=>(XE.exit 0,frm [],[])):=by
 rcases H1,H2 with⟨⟨rfl⟩,⟨rfl⟩⟩
 rw[Qw];simp -dsimp only[↓evA,evB,Qt,func266,f266,zb,dr,TP,TZ,simprocAttr];apply QB a3;intro a3;simp -dsimp +contextual only[↓evA,eZ,simprocAttr,QV]
 try simp only[AQ,eY]
 all_goals rfl
theorem GI{R1 l}[H1:EncL X5 R1 l]:CP T (n+3) 266 [.imm 2 R1]=(BU l).map λr=>.b r:=by
 obtain⟨rfl⟩:=H1;rw[Qp];simp -dsimp +contextual only[↓evA,eZ,simprocAttr,func266,f266,zb,dr,Oh]
 try simp only[BU,eY]
 all_goals rfl
theorem Le(a2 a3){R1 l R2 a}[H1:EncL VR R1 l][H2:EncL VR R2 a]:LP T (n+4) 246 4 (frm [(0,.imm 3 R1),(8,.imm 3 R2),(9,.i .i64 a2),(10,.i .i64 a3)]) [] =
  Xy (run (Zd l a a2) a3) (λ(zr:Bool)=>(XE.ret,frm [(2,.b zr)],[])) (λ(zr:Unit)=>(XE.exit 0,frm [],[])):=by
 rcases H1,H2 with⟨⟨rfl⟩,⟨rfl⟩⟩
 rw[Qw];simp -dsimp only[↓evA,evB,Qt,func246,f246,y7,eQ,TP,TZ,simprocAttr];apply QB a3;intro a3;simp -dsimp +contextual only[↓evA,eZ,simprocAttr,QV,GI]
 try simp only[Zd,eY]
 all_goals rfl
theorem HJ{R1 l}[H1:EncL VR R1 l]:CP T (n+5) 246 [.imm 3 R1]=(Z6 l).map λr=>.b r:=by
 obtain⟨rfl⟩:=H1;rw[Qp];simp -dsimp +contextual only[↓evA,eZ,simprocAttr,func246,f246,y7,eQ,Le]
 try simp only[Z6,eY]
 all_goals rfl
theorem Pw(c){R1 a}[H1:EncR VD R1 a]:CP T (n+1) 261 [.agg R1,.iptr 1 [[.i .i64 c]] 0 0]=(Fj a c).map λr=>.b r:=by
 obtain⟨rfl⟩:=H1;rw[Qp];simp -dsimp +contextual only[↓evA,eZ,simprocAttr,func261,f261,Qfk,mE]
 try simp only[Fj,eY]
 all_goals rfl
theorem CN(f a a2){R1 s}[H1:EncL VD R1 s]:LP T (n+2) 260 2 (frm [(0,.imm 3 R1),(1,.clo 261 [.iptr 1 [[.i .i64 f]] 0 0]),(7,.i .i64 a),(8,.i .i64 a2)]) [] =
  Xy (run (Q3 s f a) a2) (λ(zr:Int)=>(XE.ret,frm [(4,.i .i64 zr)],[])) (λ(zr:Unit)=>(XE.exit 0,frm [],[])):=by
 obtain⟨rfl⟩:=H1;rw[Qw];simp -dsimp only[↓evA,evB,Qt,func260,f260,zn,cV,TP,TZ,simprocAttr];apply QB a2;intro a2;simp -dsimp +contextual only[↓evA,eZ,simprocAttr,Pw]
 try simp only[Q3,eY]
 all_goals rfl
theorem DR(c){R1 s}[H1:EncL VD R1 s]:CP T (n+3) 260 [.imm 3 R1,.clo 261 [.iptr 1 [[.i .i64 c]] 0 0]]=(V0 s c).map λr=>.i .i64 r:=by
 obtain⟨rfl⟩:=H1;rw[Qp];simp -dsimp +contextual only[↓evA,eZ,simprocAttr,func260,f260,zn,cV,CN]
 try simp only[V0,eY]
 all_goals rfl
theorem Ah(a){R1 l}[H1:EncL VD R1 l]:CP T (n+4) 178 [.imm 3 R1,.i .i64 a]=(XG l a).map λr=>.i .i64 r:=by
 obtain⟨rfl⟩:=H1;rw[Qp];simp -dsimp +contextual only[↓evA,eZ,simprocAttr,func178,f178,QfJ,lG,DR]
 try simp only[XG,eY]
 all_goals rfl
theorem Yx(a){R1 l}[H1:EncL VD R1 l]:CP T (n+5) 288 [.imm 3 R1,.i .i64 a]=(Fv l a).map λr=>.i .i64 r:=by
 obtain⟨rfl⟩:=H1;rw[Qp];simp -dsimp +contextual only[↓evA,eZ,simprocAttr,func288,f288,Qji,mo,Ah]
 try simp only[Fv,eY]
 all_goals rfl
theorem Oj(a2 a3){R1 l R2 a}[H1:EncL VD R1 l][H2:EncL VD R2 a]:LP T (n+6) 247 4 (frm [(0,.imm 3 R1),(8,.imm 3 R2),(9,.i .i64 a2),(10,.i .i64 a3)]) [] =
  Xy (run (A5 l a a2) a3) (λ(zr:Bool)=>(XE.ret,frm [(2,.b zr)],[])) (λ(zr:Unit)=>(XE.exit 0,frm [],[])):=by
 rcases H1,H2 with⟨⟨rfl⟩,⟨rfl⟩⟩
 rw[Qw];simp -dsimp only[↓evA,evB,Qt,func247,f247,Qay,ek,TP,TZ,simprocAttr];apply QB a3;intro a3;simp -dsimp +contextual only[↓evA,eZ,simprocAttr,QV,Yx]
 try simp only[A5,eY]
 all_goals rfl
theorem GL{R1 l}[H1:EncL VD R1 l]:CP T (n+7) 247 [.imm 3 R1]=(AD l).map λr=>.b r:=by
 obtain⟨rfl⟩:=H1;rw[Qp];simp -dsimp +contextual only[↓evA,eZ,simprocAttr,func247,f247,Qay,ek,Oj]
 try simp only[AD,eY]
 all_goals rfl
theorem MX(a3 a4 a6 a7){R1 l R2 a R3 a2 R4 a5}[H1:EncL Qz R1 l][H2:EncR Qz R2 a][H3:EncL Qz R3 a2][H4:EncL Qz R4 a5]:LP T (n+1) 248 9 (frm [(0,.imm 5 R1),(4,.ptr 0 0 0),(10,.imm 5 R3),(11,.i .i64 a3),(12,.i .i64 a4),(62,.imm 5 R4),(63,.i .i64 a6),(64,.i .i64 a7)]) [some (Ent.box R2)] =
  Xy (run (JM l a a2 a3 a4 a5 a6) a7) (λ(zr:Bool)=>(XE.ret,frm [(2,.b zr)],[])) (λ(zr:Unit)=>(XE.exit 2,frm [(0,.imm 5 (l.map Qz)),(10,.imm 5 (a2.map Qz)),(11,.i .i64 a3),(12,.i .i64 a4)],[])):=by
 rcases H1,H2,H3,H4 with⟨⟨rfl⟩,⟨rfl⟩,⟨rfl⟩,⟨rfl⟩⟩
 rw[Qw];simp -dsimp only[↓evA,evB,Qt,func248,f248,sd,YJ,TP,TZ,simprocAttr];apply QB a7;intro a7;simp -dsimp +contextual only[↓evA,eZ,simprocAttr]
 try simp only[JM,eY]
 all_goals rfl
theorem MH(a2 a3){R1 l R2 a}[H1:EncL Qz R1 l][H2:EncL Qz R2 a]:LP T (n+2) 248 4 (frm [(0,.imm 5 R1),(10,.imm 5 R2),(11,.i .i64 a2),(12,.i .i64 a3)]) [] =
  Xy (run (ZL l a a2) a3) (λ(zr:Bool)=>(XE.ret,frm [(2,.b zr)],[])) (λ(zr:Unit)=>(XE.exit 0,frm [],[])):=by
 rcases H1,H2 with⟨⟨rfl⟩,⟨rfl⟩⟩
 rw[Qw];simp -dsimp only[↓evA,evB,Qt,func248,f248,sd,YJ,TP,TZ,simprocAttr];apply QB a3;intro a3;simp -dsimp +contextual only[↓evA,eZ,simprocAttr,QV,MX]
 try simp only[ZL,eY]
 all_goals rfl
theorem Gl{R1 l}[H1:EncL Qz R1 l]:CP T (n+3) 248 [.imm 5 R1]=(X2 l).map λr=>.b r:=by
 obtain⟨rfl⟩:=H1;rw[Qp];simp -dsimp +contextual only[↓evA,eZ,simprocAttr,func248,f248,sd,YJ,MH]
 try simp only[X2,eY]
 all_goals rfl
theorem jd(p q):CP T (n+2) 322 [.i .i64 p,.i .i64 q]=(F2 p q).map λr=>.i .i64 r:=by
 rw[Qp];simp -dsimp +contextual only[↓evA,eZ,simprocAttr,func322,f322,Qfg,mI,QV]
 try simp only[F2,eY]
 all_goals rfl
theorem fR(a v):CP T (n+3) 305 [.i .i64 a,.i .i64 v]=(Mo a v).map λr=>.i .i64 r:=by
 rw[Qp];simp -dsimp +contextual only[↓evA,eZ,simprocAttr,func305,f305,QeA,ju,jd]
 try simp only[Mo,eY]
 all_goals rfl
theorem WS(a a3 a4){R1 a2}[H1:EncL QA R1 a2]:LP T (n+4) 274 3 (frm [(3,.i .i64 a),(6,.imm 1 R1),(7,.i .i64 a3),(8,.i .i64 a4)]) [] =
  (run (FK a2 a3) (a,a4)).map (λ(zr:Int)=>(XE.exit 0,frm [(3,.i .i64 zr)],[])):=by
 obtain⟨rfl⟩:=H1;rw[Qw];simp -dsimp only[↓evA,evB,Qt,func274,f274,za,d8,TP,TZ,simprocAttr];apply QO a a4;intro a a4;simp -dsimp +contextual only[↓evA,eZ,simprocAttr,fR]
 try simp only[FK,eY]
 all_goals rfl
theorem SK{R1 v}[H1:EncL QA R1 v]:CP T (n+5) 274 [.imm 1 R1]=(Ge v).map λr=>.i .i64 r:=by
 obtain⟨rfl⟩:=H1;rw[Qp];simp -dsimp +contextual only[↓evA,eZ,simprocAttr,func274,f274,za,d8,WS]
 try simp only[Ge,eY]
 all_goals rfl
theorem KG(b){R1 a}[H1:EncR Vr R1 a]:CP T (n+6) 256 [.i .i64 b,.agg R1]=(Zq b a).map λr=>.i .i64 r:=by
 obtain⟨rfl⟩:=H1;rw[Qp];simp -dsimp +contextual only[↓evA,eZ,simprocAttr,func256,f256,Ql7,kX,SK]
 try simp only[Zq,eY]
 all_goals rfl
theorem NM(a i){R1 l}[H1:EncL Vr R1 l]:LP T (n+1) 279 2 (frm [(0,.imm 5 R1),(1,.i .i64 a),(5,.i .i64 i)]) [] =
  Xy (run (CI l a) i) (λ(zr:Int)=>(XE.ret,frm [(4,.i .i64 zr)],[])) (λ(zr:Unit)=>(XE.exit 0,frm [],[])):=by
 obtain⟨rfl⟩:=H1;rw[Qw];simp -dsimp only[↓evA,evB,Qt,func279,f279,zM,gp,TP,TZ,simprocAttr];apply QB i;intro i;simp -dsimp +contextual only[↓evA,eZ,simprocAttr]
 try simp only[CI,eY]
 all_goals rfl
theorem GJ(a){R1 l}[H1:EncL Vr R1 l]:CP T (n+2) 279 [.imm 5 R1,.i .i64 a]=(AA l a).map λr=>.i .i64 r:=by
 obtain⟨rfl⟩:=H1;rw[Qp];simp -dsimp +contextual only[↓evA,eZ,simprocAttr,func279,f279,zM,gp,NM]
 try simp only[AA,eY]
 all_goals rfl
theorem P8(b a2 a3){R1 l R2 a}[H1:EncL Vr R1 l][H2:EncL Vr R2 a]:LP T (n+7) 249 5 (frm [(0,.imm 5 R1),(3,.i .i64 b),(10,.imm 5 R2),(11,.i .i64 a2),(12,.i .i64 a3)]) [] =
  Xy (run (Aa l a a2) (b,a3)) (λ(zr:Bool)=>(XE.ret,frm [(2,.b zr)],[])) (λ(zr:Unit)=>(XE.exit 0,frm [],[])):=by
 rcases H1,H2 with⟨⟨rfl⟩,⟨rfl⟩⟩
 rw[Qw];simp -dsimp only[↓evA,evB,Qt,func249,f249,Qam,dB,TP,TZ,simprocAttr];apply QO b a3;intro b a3;simp -dsimp +contextual only[↓evA,eZ,simprocAttr,QV,KG,GJ]
 try simp only[Aa,eY]
 all_goals rfl
theorem Hh{R1 l}[H1:EncL Vr R1 l]:CP T (n+8) 249 [.imm 5 R1]=(Xu l).map λr=>.b r:=by
 obtain⟨rfl⟩:=H1;rw[Qp];simp -dsimp +contextual only[↓evA,eZ,simprocAttr,func249,f249,Qam,dB,P8]
 try simp only[Xu,eY]
 all_goals rfl
theorem LN(a2 a3){R1 l R2 a}[H1:EncL VL R1 l][H2:EncL VL R2 a]:LP T (n+2) 203 4 (frm [(0,.imm 4 R1),(8,.imm 4 R2),(9,.i .i64 a2),(10,.i .i64 a3)]) [] =
  Xy (run (Zl l a a2) a3) (λ(zr:Bool)=>(XE.ret,frm [(2,.b zr)],[])) (λ(zr:Unit)=>(XE.exit 0,frm [],[])):=by
 rcases H1,H2 with⟨⟨rfl⟩,⟨rfl⟩⟩
 rw[Qw];simp -dsimp only[↓evA,evB,Qt,func203,f203,QaP,gf,TP,TZ,simprocAttr];apply QB a3;intro a3;simp -dsimp +contextual only[↓evA,eZ,simprocAttr,QV]
 try simp only[Zl,eY]
 all_goals rfl
theorem DV{R1 l}[H1:EncL VL R1 l]:CP T (n+3) 203 [.imm 4 R1]=(Je l).map λr=>.b r:=by
 obtain⟨rfl⟩:=H1;rw[Qp];simp -dsimp +contextual only[↓evA,eZ,simprocAttr,func203,f203,QaP,gf,LN]
 try simp only[Je,eY]
 all_goals rfl
theorem PH(a a3 a4){R1 l R2 o R3 a2}[H1:EncL Vr R1 l][H2:EncL QA R2 o][H3:EncL Vr R3 a2]:LP T (n+3) 278 5 (frm [(0,.imm 5 R1),(1,.i .i64 a),(5,.sl 0),(13,.imm 5 R3),(14,.i .i64 a3),(15,.i .i64 a4)]) [some (Ent.lst 1 R2)] =
  (run (Bu l a a2 a3) (o,a4)).map (λ(zr:(List Int))=>(XE.exit 0,frm [(5,.sl 0)],[some (Ent.lst 1 (zr.map QA))])):=by
 rcases H1,H2,H3 with⟨⟨rfl⟩,⟨rfl⟩,⟨rfl⟩⟩
 rw[Qw];simp -dsimp only[↓evA,evB,Qt,func278,f278,zA,eV,TP,TZ,simprocAttr];apply QO o a4;intro o a4;simp -dsimp +contextual only[↓evA,eZ,simprocAttr,srt,GJ]
 try simp only[Bu,eY]
 all_goals rfl
theorem Lc(a){R1 l}[H1:EncL Vr R1 l]:CP T (n+9) 278 [.imm 5 R1,.i .i64 a]=(C8 l a).map λr=>.own 1 (r.map QA):=by
 obtain⟨rfl⟩:=H1;rw[Qp];simp -dsimp +contextual only[↓evA,eZ,simprocAttr,func278,f278,zA,eV,srt,Hh,PH]
 try simp only[C8,eY]
 all_goals first|rfl|(simp +contextual only[evN]<;>rfl)
theorem Ns(c){R1 f}[H1:EncR Q4 R1 f]:CP T (n+1) 199 [.agg R1,.iptr 1 [[.i .i64 c]] 0 0]=(Ek f c).map λr=>.b r:=by
 obtain⟨rfl⟩:=H1;rw[Qp];simp -dsimp +contextual only[↓evA,eZ,simprocAttr,func199,f199,Qkt,mO]
 try simp only[Ek,eY]
 all_goals rfl
theorem Cz(f a a2){R1 s}[H1:EncL Q4 R1 s]:LP T (n+2) 198 2 (frm [(0,.imm 8 R1),(1,.clo 199 [.iptr 1 [[.i .i64 f]] 0 0]),(7,.i .i64 a),(8,.i .i64 a2)]) [] =
  Xy (run (QY s f a) a2) (λ(zr:Int)=>(XE.ret,frm [(4,.i .i64 zr)],[])) (λ(zr:Unit)=>(XE.exit 0,frm [],[])):=by
 obtain⟨rfl⟩:=H1;rw[Qw];simp -dsimp only[↓evA,evB,Qt,func198,f198,zt,gj,TP,TZ,simprocAttr];apply QB a2;intro a2;simp -dsimp +contextual only[↓evA,eZ,simprocAttr,Ns]
 try simp only[QY,eY]
 all_goals rfl
theorem Dt(c){R1 s}[H1:EncL Q4 R1 s]:CP T (n+3) 198 [.imm 8 R1,.clo 199 [.iptr 1 [[.i .i64 c]] 0 0]]=(VU s c).map λr=>.i .i64 r:=by
 obtain⟨rfl⟩:=H1;rw[Qp];simp -dsimp +contextual only[↓evA,eZ,simprocAttr,func198,f198,zt,gj,Cz]
 try simp only[VU,eY]
 all_goals rfl
theorem Jq(i){R1 l}[H1:EncL Q4 R1 l]:CP T (n+4) 108 [.imm 8 R1,.i .i64 i]=(Xf l i).map λr=>.i .i64 r:=by
 obtain⟨rfl⟩:=H1;rw[Qp];simp -dsimp +contextual only[↓evA,eZ,simprocAttr,func108,f108,QeU,mv,Dt]
 try simp only[Xf,eY]
 all_goals rfl
theorem OM(a3 a4){R1 a R2 i R3 a2}[H1:EncR QJ R1 a][H2:EncL QA R2 i][H3:EncL Q4 R3 a2]:LP T (n+5) 250 5 (frm [(1,.ptr 0 0 0),(3,.sl 1),(23,.imm 8 R3),(24,.i .i64 a3),(25,.i .i64 a4)]) [some (Ent.box R1),some (Ent.lst 1 R2)] =
  Xy (run (J6 a i a2 a3) a4) (λ(zr:Bool)=>(XE.ret,frm [(2,.b zr)],[])) (λ(zr:Unit)=>(XE.exit 0,frm [(1,.ptr 0 0 0),(3,.sl 1)],[some (Ent.box (QJ a)),some (Ent.lst 1 (i.map QA))])):=by
 rcases H1,H2,H3 with⟨⟨rfl⟩,⟨rfl⟩,⟨rfl⟩⟩
 rw[Qw];simp -dsimp only[↓evA,evB,Qt,func250,f250,kc,Un,TP,TZ,simprocAttr];apply QB a4;intro a4;simp -dsimp +contextual (maxSteps:=100000000) only[↓evA,eZ,simprocAttr,Ah,DQ]
 try simp only[J6,eY]
 all_goals rfl
theorem NX(a3 a4){R1 a R2 i R3 a2}[H1:EncR QJ R1 a][H2:EncL QA R2 i][H3:EncL VD R3 a2]:LP T (n+5) 250 11 (frm [(1,.ptr 0 0 0),(3,.sl 1),(57,.imm 3 R3),(58,.i .i64 a3),(59,.i .i64 a4)]) [some (Ent.box R1),some (Ent.lst 1 R2)] =
  Xy (run (XL a i a2 a3) a4) (λ(zr:Bool)=>(XE.ret,frm [(2,.b zr)],[])) (λ(zr:Unit)=>(XE.exit 2,frm [(1,.ptr 0 0 0),(3,.sl 1)],[some (Ent.box (QJ a)),some (Ent.lst 1 (i.map QA))])):=by
 rcases H1,H2,H3 with⟨⟨rfl⟩,⟨rfl⟩,⟨rfl⟩⟩
 rw[Qw];simp -dsimp only[↓evA,evB,Qt,func250,f250,kc,Un,TP,TZ,simprocAttr];apply QB a4;intro a4;simp -dsimp +contextual (maxSteps:=100000000) only[↓evA,eZ,simprocAttr,Jq]
 try simp only[XL,eY]
 all_goals rfl
theorem NZ(a3 a4){R1 a R2 a2}[H1:EncR QJ R1 a][H2:EncL QA R2 a2]:LP T (n+5) 250 17 (frm [(1,.ptr 0 0 0),(75,.sl 1),(76,.i .i64 a3),(77,.i .i64 a4)]) [some (Ent.box R1),some (Ent.lst 1 R2)] =
  Xy (run (AT a a2 a3) a4) (λ(zr:Bool)=>(XE.ret,frm [(2,.b zr)],[])) (λ(zr:Unit)=>(XE.exit 4,frm [],[])):=by
 rcases H1,H2 with⟨⟨rfl⟩,⟨rfl⟩⟩
 rw[Qw];simp -dsimp only[↓evA,evB,Qt,func250,f250,kc,Un,TP,TZ,simprocAttr];apply QB a4;intro a4;simp -dsimp +contextual (maxSteps:=100000000) only[↓evA,eZ,simprocAttr,Jq]
 try simp only[AT,eY]
 all_goals rfl
theorem WQ{R1 a}[H1:EncR QJ R1 a]:CP T (n+10) 250 [.agg R1]=(Ao a).map λr=>.b r:=by
 obtain⟨rfl⟩:=H1;rw[Qp];simp -dsimp +contextual (maxSteps:=100000000) only[↓evA,eZ,simprocAttr,func250,f250,kc,Un,Lc,OM,NX,NZ]
 try simp only[Ao,eY]
 all_goals rfl
theorem LB{R1 a}[H1:EncR VC R1 a]:CP T (n+2) 265 [.agg R1]=(Er a).map λr=>.b r:=by
 obtain⟨rfl⟩:=H1;rw[Qp];simp -dsimp +contextual only[↓evA,eZ,simprocAttr,func265,f265,Qi7,ms,QV]
 try simp only[Er,eY]
 all_goals rfl
theorem PK(c){R1 a}[H1:EncR VR R1 a]:CP T (n+1) 276 [.agg R1,.iptr 1 [[.i .i64 c]] 0 0]=(Dv a c).map λr=>.b r:=by
 obtain⟨rfl⟩:=H1;rw[Qp];simp -dsimp +contextual only[↓evA,eZ,simprocAttr,func276,f276,Qh4,lu]
 try simp only[Dv,eY]
 all_goals rfl
theorem BY(f a a2){R1 s}[H1:EncL VR R1 s]:LP T (n+2) 275 2 (frm [(0,.imm 3 R1),(1,.clo 276 [.iptr 1 [[.i .i64 f]] 0 0]),(7,.i .i64 a),(8,.i .i64 a2)]) [] =
  Xy (run (QD s f a) a2) (λ(zr:Int)=>(XE.ret,frm [(4,.i .i64 zr)],[])) (λ(zr:Unit)=>(XE.exit 0,frm [],[])):=by
 obtain⟨rfl⟩:=H1;rw[Qw];simp -dsimp only[↓evA,evB,Qt,func275,f275,Qad,dX,TP,TZ,simprocAttr];apply QB a2;intro a2;simp -dsimp +contextual only[↓evA,eZ,simprocAttr,PK]
 try simp only[QD,eY]
 all_goals rfl
theorem CV(c){R1 s}[H1:EncL VR R1 s]:CP T (n+3) 275 [.imm 3 R1,.clo 276 [.iptr 1 [[.i .i64 c]] 0 0]]=(Vi s c).map λr=>.i .i64 r:=by
 obtain⟨rfl⟩:=H1;rw[Qp];simp -dsimp +contextual only[↓evA,eZ,simprocAttr,func275,f275,Qad,dX,BY]
 try simp only[Vi,eY]
 all_goals rfl
theorem KK(a){R1 l}[H1:EncL VR R1 l]:CP T (n+4) 195 [.imm 3 R1,.i .i64 a]=(AG l a).map λr=>.i .i64 r:=by
 obtain⟨rfl⟩:=H1;rw[Qp];simp -dsimp +contextual only[↓evA,eZ,simprocAttr,func195,f195,Qmg,mM,CV]
 try simp only[AG,eY]
 all_goals rfl
theorem G6(a){R1 l}[H1:EncL VR R1 l]:CP T (n+5) 106 [.imm 3 R1,.i .i64 a]=(BN l a).map λr=>.own 2 (r.map X5):=by
 obtain⟨rfl⟩:=H1;rw[Qp];simp -dsimp +contextual only[↓evA,eZ,simprocAttr,func106,f106,QjM,kh,KK,EV]
 try simp only[BN,eY]
 all_goals first|rfl|(simp +contextual only[evN]<;>rfl)
theorem WK{R1 l}[H1:EncL X5 R1 l]:CP T (n+1) 267 [.imm 2 R1]=(Eo l).map λr=>.i .i64 r:=by
 obtain⟨rfl⟩:=H1;rw[Qp];simp -dsimp +contextual only[↓evA,eZ,simprocAttr,func267,f267,QiO,lf]
 try simp only[Eo,eY]
 all_goals rfl
theorem F8{R1 l R2 a}[H1:EncL X5 R1 l][H2:EncR VC R2 a]:CP T (n+4) 181 [.imm 2 R1,.agg R2]=(Ad l a).map λr=>.i .i64 r:=by
 rcases H1,H2 with⟨⟨rfl⟩,⟨rfl⟩⟩
 rw[Qp];simp -dsimp +contextual only[↓evA,eZ,simprocAttr,func181,f181,QhN,lr,LB,GI,WK]
 try simp only[Ad,eY]
 all_goals rfl
theorem Yu(s):CP T (n+1) 289 [.i .i64 s]=(FB s).map λr=>.i .i64 r:=by
 rw[Qp];simp -dsimp +contextual only[↓evA,eZ,simprocAttr,func289,f289,QiM,jW]
 try simp only[FB,eY]
 all_goals rfl
theorem MK(a3 a4){R1 a R2 a2}[H1:EncR QJ R1 a][H2:EncL Qz R2 a2]:LP T (n+6) 251 4 (frm [(1,.ptr 0 0 0),(14,.imm 5 R2),(15,.i .i64 a3),(16,.i .i64 a4)]) [some (Ent.box R1)] =
  Xy (run (Vw a a2 a3) a4) (λ(zr:Bool)=>(XE.ret,frm [(2,.b zr)],[])) (λ(zr:Unit)=>(XE.exit 0,frm [],[])):=by
 rcases H1,H2 with⟨⟨rfl⟩,⟨rfl⟩⟩
 rw[Qw];simp -dsimp only[↓evA,evB,Qt,func251,f251,Qag,fE,TP,TZ,simprocAttr];apply QB a4;intro a4;simp -dsimp +contextual (maxSteps:=100000000) only[↓evA,eZ,simprocAttr,Jq,LB,G6,F8,Yu]
 try simp only[Vw,eY]
 all_goals rfl
theorem Si{R1 a}[H1:EncR QJ R1 a]:CP T (n+7) 251 [.agg R1]=(XF a).map λr=>.b r:=by
 obtain⟨rfl⟩:=H1;rw[Qp];simp -dsimp +contextual (maxSteps:=100000000) only[↓evA,eZ,simprocAttr,func251,f251,Qag,fE,MK]
 try simp only[XF,eY]
 all_goals rfl
theorem Sb(a2 a4 a5){R1 a R2 a3}[H1:EncR QJ R1 a][H2:EncL Q4 R2 a3]:LP T (n+1) 252 3 (frm [(1,.ptr 0 0 0),(3,.i .i64 a2),(13,.imm 8 R2),(14,.i .i64 a4),(15,.i .i64 a5)]) [some (Ent.box R1)] =
  (run (B9 a a3 a4) (a2,a5)).map (λ(zr:Int)=>(XE.exit 0,frm [(1,.ptr 0 0 0),(3,.i .i64 zr)],[some (Ent.box (QJ a))])):=by
 rcases H1,H2 with⟨⟨rfl⟩,⟨rfl⟩⟩
 rw[Qw];simp -dsimp only[↓evA,evB,Qt,func252,f252,et,SB,TP,TZ,simprocAttr];apply QO a2 a5;intro a2 a5;simp -dsimp +contextual (maxSteps:=100000000) only[↓evA,eZ,simprocAttr]
 try simp only[B9,eY]
 all_goals rfl
theorem Sv(a2 a4 a5){R1 a R2 a3}[H1:EncR QJ R1 a][H2:EncL Qz R2 a3]:LP T (n+1) 252 8 (frm [(1,.ptr 0 0 0),(3,.i .i64 a2),(25,.imm 5 R2),(26,.i .i64 a4),(27,.i .i64 a5)]) [some (Ent.box R1)] =
  (run (Cw a a3 a4) (a2,a5)).map (λ(zr:Int)=>(XE.exit 2,frm [(1,.ptr 0 0 0),(3,.i .i64 zr)],[some (Ent.box (QJ a))])):=by
 rcases H1,H2 with⟨⟨rfl⟩,⟨rfl⟩⟩
 rw[Qw];simp -dsimp only[↓evA,evB,Qt,func252,f252,et,SB,TP,TZ,simprocAttr];apply QO a2 a5;intro a2 a5;simp -dsimp +contextual (maxSteps:=100000000) only[↓evA,eZ,simprocAttr]
 try simp only[Cw,eY]
 all_goals rfl
theorem Ou(a2 a4 a5){R1 a R2 a3}[H1:EncR QJ R1 a][H2:EncL Vr R2 a3]:LP T (n+1) 252 13 (frm [(1,.ptr 0 0 0),(3,.i .i64 a2),(37,.imm 5 R2),(38,.i .i64 a4),(39,.i .i64 a5)]) [some (Ent.box R1)] =
  (run (BC a a3 a4) (a2,a5)).map (λ(zr:Int)=>(XE.exit 4,frm [(1,.ptr 0 0 0),(3,.i .i64 zr)],[some (Ent.box (QJ a))])):=by
 rcases H1,H2 with⟨⟨rfl⟩,⟨rfl⟩⟩
 rw[Qw];simp -dsimp only[↓evA,evB,Qt,func252,f252,et,SB,TP,TZ,simprocAttr];apply QO a2 a5;intro a2 a5;simp -dsimp +contextual (maxSteps:=100000000) only[↓evA,eZ,simprocAttr]
 try simp only[BC,eY]
 all_goals rfl
end Go.Proofs.YtoilkmgiofimjaaGreatDoor
