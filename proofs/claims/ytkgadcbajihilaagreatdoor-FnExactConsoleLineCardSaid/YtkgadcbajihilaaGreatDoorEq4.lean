import Derived.Test.YtkgadcbajihilaaGreatDoorEq3
set_option maxHeartbeats 4000000
set_option linter.unusedVariables false
set_option linter.unusedSimpArgs false
set_option linter.defProp false
set_option maxRecDepth 100000
namespace Go.Proofs.YtkgadcbajihilaaGreatDoor
open Go Go.Proofs Go.Proofs.YtkgadcbajihilaaGreatDoor.Am Tryz
variable(n:Nat)
def SD(s i){B a}[A:QC Vv B a]:LP T (n+3) 100 4 (Q7 [(5,.s s),(6,.sl 0),(7,.i .i64 i)]) [some (.lst 5 B)]=(run (Cq a) (s,i)).map (λzr=>(XE.exit 0,Q7 [(5,.s zr),(6,.sl 0)],[some (.lst 5 (a.map Vv))])):=by
 obtain⟨rfl⟩:=A;rw[QY];simp-dsimp only[↓QW,Xw,QV,func100,f100,QfL,rp,TP,TZ,seval];apply Q2 s i;intro s i;simp-dsimp+contextual only[↓QW,eZ,seval,T1,Je]
 try simp only[Cq,eY]
 repeat rfl
def cB(a){B l}[A:QC Vv B l]:CP T (n+4) 100 [.imm 5 B,.i .i64 a]=(FO l a).map λr=>.s r:=by
 obtain⟨rfl⟩:=A;rw[QM];simp-dsimp+contextual only[↓QW,eZ,seval,func100,f100,QfL,rp,Oa,SD]
 try simp only[FO,eY]
 repeat rfl
def W3(f):CP T (n+2) 102 [.i .i64 f]=(EW f).map λr=>.s r:=by
 rw[QM];simp-dsimp+contextual only[↓QW,eZ,seval,func102,f102,QpK,xe,Vw]
 try simp only[EW,eY]
 repeat rfl
def P9(c):CP T (n+3) 104 [.i .i64 c]=(Dk c).map λr=>.s r:=by
 rw[QM];simp-dsimp+contextual only[↓QW,eZ,seval,func104,f104,QmA,vM,Vw,Je]
 try simp only[Dk,eY]
 repeat rfl
def eo(w a2){B a}[A:QD Va B a]:CP T (n+7) 31 [.agg B,.s w,.i .i64 a2]=(Zu a w a2).map λr=>.s r:=by
 obtain⟨rfl⟩:=A;rw[QM];simp-dsimp+contextual(maxSteps:=1000000)only[↓QW,eZ,seval,func31,f31,QvK,Qjx,aM,Ge,KH,I5,Je,cB,Ja,Lq,W3,KG,P9]
 try simp only[Zu,eY]
 repeat rfl
def M0(s i){C a D w}[A:QD Va C a][B:QC Ij D w]:LP T (n+1) 5 8 (Q7 [(2,.ptr 0 0 0),(4,.ptr 1 0 0),(6,.sl 2),(8,.s s),(9,.i .i64 i)]) [some (.box C),some (.box [.i .i64 0,.nil,.nil,.nil,.nil,.nil,.nil,.nil,.i .i64 0]),some (.lst 1 D)]=(run (Zk a w) (s,i)).map (λzr=>(XE.exit 0,Q7 [(2,.ptr 0 0 0),(4,.ptr 1 0 0),(8,.s zr)],[some (.box (Va a)),some (.box [.i .i64 0,.nil,.nil,.nil,.nil,.nil,.nil,.nil,.i .i64 0])])):=by
 rcases A,B with⟨⟨rfl⟩,⟨rfl⟩⟩
 rw[QY];simp-dsimp only[↓QW,Xw,QV,func5,f5,Aa5,An5,TP,TZ,seval];apply Q2 s i;intro s i;simp-dsimp+contextual(maxSteps:=1000000)only[↓QW,eZ,seval,Ni]
 try simp only[Zk,eY]
 try simp only[List.contains_nil,Qi,Bool.and_true,T7,List.length_append,List.length_cons,List.length_nil,Nat.zero_add,th,jG]
 repeat rfl
def PP(l){B a}[A:QD Va B a]:CP T (n+15) 5 [.agg B,.s l]=(V1 a l).map λr=>.tup [.agg (Xi r.1),.s r.2]:=by
 obtain⟨rfl⟩:=A;rw[QM];simp-dsimp+contextual(maxSteps:=1000000)only[↓QW,eZ,Nat.reduceAdd,Nat.reduceMul,Nat.reduceBEq,Nat.reduceLeDiff,Nat.reduceLT,func5,f5,Aa5,An5,Ni,Yk,Xz,aN,P7,TH,FJ,NQ,Pn,Ye,aF,Yg,RU,bg,eo,M0]
 try simp only[V1,eY]
 try simp only[List.contains_nil,Qi,Bool.and_true,T7,List.length_append,List.length_cons,List.length_nil,Nat.zero_add,th,jG]
 repeat rfl
def ik(w):CP T (n+1) 40 [.s w]=(KI w).map λr=>.i .i64 r:=by
 rw[QM];simp-dsimp+contextual(maxSteps:=1000000)only[↓QW,eZ,seval,func40,f40,Qw5,QiA]
 try simp only[KI,eY]
 repeat rfl
def I7{B s}[A:QC Vn B s]:CP T (n+1) 114 [.imm 8 B]=(J6 s).map λr=>.own 8 (r.map Vn):=by
 obtain⟨rfl⟩:=A;rw[QM];simp-dsimp+contextual only[↓QW,eZ,seval,func114,f114,QrW,QaL]
 try simp only[J6,eY]
 all_goals first|rfl|(simp +contextual only[B8]<;>rfl)
def Gl{B s}[A:QC Xb B s]:CP T (n+1) 210 [.imm 2 B]=(Jk s).map λr=>.own 2 (r.map Xb):=by
 obtain⟨rfl⟩:=A;rw[QM];simp-dsimp+contextual only[↓QW,eZ,seval,func210,f210,Qn9,yS]
 try simp only[Jk,eY]
 all_goals first|rfl|(simp +contextual only[B8]<;>rfl)
def MD(a2 a3){C o D a}[A:QC VF C o][B:QC VC D a]:LP T (n+2) 115 3 (Q7 [(3,.sl 0),(7,.imm 3 D),(8,.i .i64 a2),(9,.i .i64 a3)]) [some (.lst 3 C)]=(run (X5 a a2) (o,a3)).map (λzr=>(XE.exit 0,Q7 [(3,.sl 0)],[some (.lst 3 (zr.map VF))])):=by
 rcases A,B with⟨⟨rfl⟩,⟨rfl⟩⟩
 rw[QY];simp-dsimp only[↓QW,Xw,QV,func115,f115,Qfw,oE,TP,TZ,seval];apply Q2 o a3;intro o a3;simp-dsimp+contextual only[↓QW,eZ,seval,Gl]
 try simp only[X5,eY]
 repeat rfl
def I6{B l}[A:QC VC B l]:CP T (n+3) 115 [.imm 3 B]=(Zd l).map λr=>.own 3 (r.map VF):=by
 obtain⟨rfl⟩:=A;rw[QM];simp-dsimp+contextual only[↓QW,eZ,seval,func115,f115,Qfw,oE,MD]
 try simp only[Zd,eY]
 all_goals first|rfl|(simp +contextual only[B8]<;>rfl)
def C7{B s}[A:QC VA B s]:CP T (n+1) 116 [.imm 3 B]=(XF s).map λr=>.own 3 (r.map VA):=by
 obtain⟨rfl⟩:=A;rw[QM];simp-dsimp+contextual only[↓QW,eZ,seval,func116,f116,Qn7,yw]
 try simp only[XF,eY]
 all_goals first|rfl|(simp +contextual only[B8]<;>rfl)
def FI{B s}[A:QC QZ B s]:CP T (n+1) 117 [.imm 5 B]=(Xf s).map λr=>.own 5 (r.map QZ):=by
 obtain⟨rfl⟩:=A;rw[QM];simp-dsimp+contextual only[↓QW,eZ,seval,func117,f117,QnA,ux]
 try simp only[Xf,eY]
 all_goals first|rfl|(simp +contextual only[B8]<;>rfl)
def Np{B s}[A:QC Vq B s]:CP T (n+1) 118 [.imm 4 B]=(DT s).map λr=>.own 4 (r.map Vq):=by
 obtain⟨rfl⟩:=A;rw[QM];simp-dsimp+contextual only[↓QW,eZ,seval,func118,f118,Qpc,zG]
 try simp only[DT,eY]
 all_goals first|rfl|(simp +contextual only[B8]<;>rfl)
def I8{B s}[A:QC Vv B s]:CP T (n+1) 119 [.imm 5 B]=(XW s).map λr=>.own 5 (r.map Vv):=by
 obtain⟨rfl⟩:=A;rw[QM];simp-dsimp+contextual only[↓QW,eZ,seval,func119,f119,Qrs,yp]
 try simp only[XW,eY]
 all_goals first|rfl|(simp +contextual only[B8]<;>rfl)
def ID{B s}[A:QC Vx B s]:CP T (n+1) 120 [.imm 4 B]=(JH s).map λr=>.own 4 (r.map Vx):=by
 obtain⟨rfl⟩:=A;rw[QM];simp-dsimp+contextual only[↓QW,eZ,seval,func120,f120,Qsw,yu]
 try simp only[JH,eY]
 all_goals first|rfl|(simp +contextual only[B8]<;>rfl)
def Xd{B a}[A:QD Va B a]:CP T (n+4) 41 [.agg B]=(Ve a).map λr=>.agg (Xi r):=by
 obtain⟨rfl⟩:=A;rw[QM];simp-dsimp+contextual(maxSteps:=1000000)only[↓QW,eZ,seval,func41,f41,QwE,Qjv,I7,I6,C7,FI,Np,I8,ID]
 try simp only[Ve,eY]
 repeat rfl
def RL(s a a2 a3):LP T (n+1) 121 5 (Q7 [(0,.s s),(4,.i .i64 a),(25,.i .i64 a2),(26,.i .i64 a3)]) []=Xt (run (BL s a2) (a,a3)) (λzr=>(XE.ret,Q7 [(2,.i .i64 zr.1),(3,.b zr.2)],[])) (λzr=>(XE.exit 0,Q7 [(4,.i .i64 zr)],[])):=by
 rw[QY];simp-dsimp only[↓QW,Xw,QV,func121,f121,Qgs,rz,TP,TZ,seval];apply Q2 a a3;intro a a3;simp-dsimp+contextual only[↓QW,eZ,seval]
 try simp only[BL,eY]
 repeat rfl
def GQ(s):CP T (n+2) 121 [.s s]=(Z1 s).map λr=>.tup [.i .i64 r.1,.b r.2]:=by
 rw[QM];simp-dsimp+contextual only[↓QW,eZ,seval,func121,f121,Qgs,rz,RL]
 try simp only[Z1,eY]
 repeat rfl
def OK(a2 a3){C o D a}[A:QC Q9 C o][B:QC Ij D a]:LP T (n+3) 122 5 (Q7 [(4,.sl 0),(14,.sl 1),(15,.i .i64 a2),(16,.i .i64 a3)]) [some (.lst 1 C),some (.lst 1 D)]=Xt (run (AI a a2) (o,a3)) (λzr=>(XE.ret,Q7 [(2,.sl 0),(3,.b zr.2)],[some (.lst 1 (zr.1.map Q9))])) (λzr=>(XE.exit 0,Q7 [(4,.sl 0)],[some (.lst 1 (zr.map Q9))])):=by
 rcases A,B with⟨⟨rfl⟩,⟨rfl⟩⟩
 rw[QY];simp-dsimp only[↓QW,Xw,QV,func122,f122,QfQ,pj,TP,TZ,seval];apply Q2 o a3;intro o a3;simp-dsimp+contextual only[↓QW,eZ,seval,GQ]
 try simp only[AI,eY]
 repeat rfl
def UT(s):CP T (n+4) 122 [.s s]=(DE s).map λr=>.tup [.own 1 (r.1.map Q9),.b r.2]:=by
 rw[QM];simp-dsimp+contextual only[↓QW,eZ,seval,func122,f122,QfQ,pj,IR,OK]
 try simp only[DE,eY]
 all_goals first|rfl|(simp +contextual only[B8]<;>rfl)
def UD(s):CP T (n+3) 123 [.s s]=(Dp s).map λr=>.tup [.i .i64 r.1,.i .i64 r.2.1,.b r.2.2]:=by
 rw[QM];simp-dsimp+contextual only[↓QW,eZ,seval,func123,f123,Qnc,QaH,ep,GQ]
 try simp only[Dp,eY]
 repeat rfl
def Vo(a l a2):CP T (n+1) 240 [.i .i64 a,.i .i64 l,.i .i64 a2]=(QO a l a2).map λr=>.b r:=by
 rw[QM];simp-dsimp+contextual only[↓QW,eZ,seval,func240,f240,QnE,yn]
 try simp only[QO,eY]
 repeat rfl
def MU(k):CP T (n+2) 212 [.i .i64 k]=(ED k).map λr=>.s r:=by
 rw[QM];simp-dsimp+contextual only[↓QW,eZ,seval,func212,f212,Qlm,Qai,Vo]
 try simp only[ED,eY]
 repeat rfl
def Ws(s k):LP T (n+3) 124 2 (Q7 [(0,.s s),(3,.i .i64 k)]) []=Xt (run (Jq s) k) (λzr=>(XE.ret,Q7 [(2,.i .i64 zr)],[])) (λzr=>(XE.exit 0,Q7 [],[])):=by
 rw[QY];simp-dsimp only[↓QW,Xw,QV,func124,f124,Qgl,oO,TP,TZ,seval];apply Q5 k;intro k;simp-dsimp+contextual only[↓QW,eZ,seval,MU]
 try simp only[Jq,eY]
 repeat rfl
def PI(s):CP T (n+4) 124 [.s s]=(Bq s).map λr=>.i .i64 r:=by
 rw[QM];simp-dsimp+contextual only[↓QW,eZ,seval,func124,f124,Qgl,oO,Ws]
 try simp only[Bq,eY]
 repeat rfl
def Na(l2 a a3 a4){C l D a2}[A:QC Q9 C l][B:QC Q9 D a2]:LP T (n+2) 291 2 (Q7 [(0,.imm 1 C),(1,.i .i64 l2),(2,.i .i64 a),(9,.imm 1 D),(10,.i .i64 a3),(11,.i .i64 a4)]) []=Xt (run (Zp l l2 a a2 a3) a4) (λzr=>(XE.ret,Q7 [(6,.b zr)],[])) (λzr=>(XE.exit 0,Q7 [],[])):=by
 rcases A,B with⟨⟨rfl⟩,⟨rfl⟩⟩
 rw[QY];simp-dsimp only[↓QW,Xw,QV,func291,f291,Qe2,qD,TP,TZ,seval];apply Q5 a4;intro a4;simp-dsimp+contextual only[↓QW,eZ,seval,Vo]
 try simp only[Zp,eY]
 repeat rfl
def Ry(l2 a){B l}[A:QC Q9 B l]:CP T (n+3) 291 [.imm 1 B,.i .i64 l2,.i .i64 a]=(BB l l2 a).map λr=>.b r:=by
 obtain⟨rfl⟩:=A;rw[QM];simp-dsimp+contextual only[↓QW,eZ,seval,func291,f291,Qe2,qD,Na]
 try simp only[BB,eY]
 repeat rfl
def dD{B s}[A:QD cU B s]:CP T (n+2) 292 [.agg B]=(K9 s).map λr=>.b r:=by
 obtain⟨rfl⟩:=A;rw[QM];simp-dsimp+contextual only[↓QW,eZ,seval,func292,f292,Qm5,vB,Vo]
 try simp only[K9,eY]
 repeat rfl
def MX{B r}[A:QD D1 B r]:CP T (n+4) 213 [.agg B]=(JY r).map λr=>.b r:=by
 obtain⟨rfl⟩:=A;rw[QM];simp-dsimp+contextual only[↓QW,eZ,seval,func213,f213,Qne,uF,Vo,Ry,dD]
 try simp only[JY,eY]
 repeat rfl
def Jc(a):CP T (n+2) 129 [.i .i64 a]=(Vi a).map λr=>.s r:=by
 rw[QM];simp-dsimp+contextual only[↓QW,eZ,seval,func129,f129,Qq3,uv,ci]
 try simp only[Vi,eY]
 repeat rfl
def Rx(a2 a3){C o D a}[A:QC Ij C o][B:QC Q9 D a]:LP T (n+3) 214 5 (Q7 [(3,.sl 0),(10,.imm 1 D),(11,.i .i64 a2),(12,.i .i64 a3)]) [some (.lst 1 C)]=(run (BK a a2) (o,a3)).map (λzr=>(XE.exit 0,Q7 [(3,.sl 0)],[some (.lst 1 (zr.map Ij))])):=by
 rcases A,B with⟨⟨rfl⟩,⟨rfl⟩⟩
 rw[QY];simp-dsimp only[↓QW,Xw,QV,func214,f214,QgP,og,TP,TZ,seval];apply Q2 o a3;intro o a3;simp-dsimp+contextual only[↓QW,eZ,seval,Jc]
 try simp only[BK,eY]
 repeat rfl
def Ys{B l}[A:QC Q9 B l]:CP T (n+4) 214 [.imm 1 B]=(EO l).map λr=>.s r:=by
 obtain⟨rfl⟩:=A;rw[QM];simp-dsimp+contextual only[↓QW,eZ,seval,func214,f214,QgP,og,FB,Rx]
 try simp only[EO,eY]
 repeat rfl
def YA(a b):CP T (n+3) 215 [.i .i64 a,.i .i64 b]=(EX a b).map λr=>.s r:=by
 rw[QM];simp-dsimp+contextual only[↓QW,eZ,seval,func215,f215,QrP,xq,Jc]
 try simp only[EX,eY]
 repeat rfl
def TE{B r}[A:QD D1 B r]:CP T (n+5) 125 [.agg B]=(Ej r).map λr=>.s r:=by
 obtain⟨rfl⟩:=A;rw[QM];simp-dsimp+contextual only[↓QW,eZ,seval,func125,f125,Qo8,wZ,MX,Jc,MU,Ys,YA,FB]
 try simp only[Ej,eY]
 repeat rfl
def Rz(s):CP T (n+6) 42 [.s s]=(JP s).map λr=>.tup [.agg (LX r.1),.b r.2]:=by
 rw[QM];simp-dsimp+contextual only[↓QW,eZ,Nat.reduceAdd,Nat.reduceMul,Nat.reduceBEq,Nat.reduceLeDiff,Nat.reduceLT,func42,f42,QvE,Qi0,IR,GQ,UT,UD,PI,TE]
 try simp only[JP,eY]
 repeat rfl
def Kn{B a}[A:QD CW B a]:CP T (n+2) 296 [.agg B]=(CL a).map λr=>.b r:=by
 obtain⟨rfl⟩:=A;rw[QM];simp-dsimp+contextual only[↓QW,eZ,seval,func296,f296,Qli,z7,Vo]
 try simp only[CL,eY]
 repeat rfl
def Ix{B f}[A:QD Vn B f]:CP T (n+3) 219 [.agg B]=(Bl f).map λr=>.b r:=by
 obtain⟨rfl⟩:=A;rw[QM];simp-dsimp+contextual only[↓QW,eZ,seval,func219,f219,Qqv,zW,Kn,Vo]
 try simp only[Bl,eY]
 repeat rfl
def PX(a2 a3){C l D a}[A:QC Vn C l][B:QC Vn D a]:LP T (n+4) 131 4 (Q7 [(0,.imm 8 C),(8,.imm 8 D),(9,.i .i64 a2),(10,.i .i64 a3)]) []=Xt (run (BD l a a2) a3) (λzr=>(XE.ret,Q7 [(2,.b zr)],[])) (λzr=>(XE.exit 0,Q7 [],[])):=by
 rcases A,B with⟨⟨rfl⟩,⟨rfl⟩⟩
 rw[QY];simp-dsimp only[↓QW,Xw,QV,func131,f131,Qgj,pI,TP,TZ,seval];apply Q5 a3;intro a3;simp-dsimp+contextual only[↓QW,eZ,seval,Ix]
 try simp only[BD,eY]
 repeat rfl
def IX{B l}[A:QC Vn B l]:CP T (n+5) 131 [.imm 8 B]=(Bo l).map λr=>.b r:=by
 obtain⟨rfl⟩:=A;rw[QM];simp-dsimp+contextual only[↓QW,eZ,seval,func131,f131,Qgj,pI,PX]
 try simp only[Bo,eY]
 repeat rfl
def Nf(v a a2){B s}[A:QC Q9 B s]:LP T (n+1) 364 2 (Q7 [(0,.imm 1 B),(1,.i .i64 v),(7,.i .i64 a),(8,.i .i64 a2)]) []=Xt (run (Zr s v a) a2) (λzr=>(XE.ret,Q7 [(4,.i .i64 zr)],[])) (λzr=>(XE.exit 0,Q7 [],[])):=by
 obtain⟨rfl⟩:=A;rw[QY];simp-dsimp only[↓QW,Xw,QV,func364,f364,QgR,qp,TP,TZ,seval];apply Q5 a2;intro a2;simp-dsimp+contextual only[↓QW,eZ,seval]
 try simp only[Zr,eY]
 repeat rfl
def RA(v){B s}[A:QC Q9 B s]:CP T (n+2) 364 [.imm 1 B,.i .i64 v]=(FR s v).map λr=>.i .i64 r:=by
 obtain⟨rfl⟩:=A;rw[QM];simp-dsimp+contextual only[↓QW,eZ,seval,func364,f364,QgR,qp,Nf]
 try simp only[FR,eY]
 repeat rfl
def E5(v){B s}[A:QC Q9 B s]:CP T (n+3) 332 [.imm 1 B,.i .i64 v]=(Jg s v).map λr=>.b r:=by
 obtain⟨rfl⟩:=A;rw[QM];simp-dsimp+contextual only[↓QW,eZ,seval,func332,f332,Qnr,yD,RA]
 try simp only[Jg,eY]
 repeat rfl
def dL(a){B l}[A:QC Q9 B l]:CP T (n+4) 297 [.imm 1 B,.i .i64 a]=(G7 l a).map λr=>.b r:=by
 obtain⟨rfl⟩:=A;rw[QM];simp-dsimp+contextual only[↓QW,eZ,seval,func297,f297,Qr7,Qaa,E5]
 try simp only[G7,eY]
 repeat rfl
def dI{C r D f}[A:QD D1 C r][B:QD Vn D f]:CP T (n+5) 220 [.agg C,.agg D]=(IB r f).map λr=>.s r:=by
 rcases A,B with⟨⟨rfl⟩,⟨rfl⟩⟩
 rw[QM];simp-dsimp+contextual only[↓QW,eZ,seval,func220,f220,Qlt,uq,MX,Ix,dL,Vo]
 try simp only[IB,eY]
 repeat rfl
def i7{C r D f}[A:QD D1 C r][B:QD Vn D f]:CP T (n+6) 132 [.agg C,.agg D]=(CV r f).map λr=>.b r:=by
 rcases A,B with⟨⟨rfl⟩,⟨rfl⟩⟩
 rw[QM];simp-dsimp+contextual only[↓QW,eZ,seval,func132,f132,Qrn,zf,dI]
 try simp only[CV,eY]
 repeat rfl
def Ob(a2 a3){D r E o F a}[A:QD D1 D r][B:QC Q9 E o][C:QC Vn F a]:LP T (n+7) 45 5 (Q7 [(2,.ptr 0 0 0),(5,.sl 1),(13,.imm 8 F),(14,.i .i64 a2),(15,.i .i64 a3)]) [some (.box D),some (.lst 1 E)]=(run (ZO r a a2) (o,a3)).map (λzr=>(XE.exit 0,Q7 [(5,.sl 0)],[some (.lst 1 (zr.map Q9))])):=by
 rcases A,B,C with⟨⟨rfl⟩,⟨rfl⟩,⟨rfl⟩⟩
 rw[QY];simp-dsimp only[↓QW,Xw,QV,func45,f45,Qnn,Qdr,TP,TZ,seval];apply Q2 o a3;intro o a3;simp-dsimp+contextual only[↓QW,eZ,seval,i7]
 try simp only[ZO,eY]
 repeat rfl
def TF{C r D l}[A:QD D1 C r][B:QC Vn D l]:CP T (n+8) 45 [.agg C,.imm 8 D]=(Cc r l).map λr=>.own 1 (r.map Q9):=by
 rcases A,B with⟨⟨rfl⟩,⟨rfl⟩⟩
 rw[QM];simp-dsimp+contextual only[↓QW,eZ,seval,func45,f45,Qnn,Qdr,IX,Ob]
 try simp only[Cc,eY]
 all_goals first|rfl|(simp +contextual only[B8]<;>rfl)
def Lv{B l}[A:QC Ij B l]:CP T (n+2) 130 [.imm 1 B]=(FH l).map λr=>.s r:=by
 obtain⟨rfl⟩:=A;rw[QM];simp-dsimp+contextual only[↓QW,eZ,seval,func130,f130,Qpv,zw,FB]
 try simp only[FH,eY]
 repeat rfl
def LY(a2 a3){C o D a}[A:QC Ij C o][B:QC Q9 D a]:LP T (n+3) 44 3 (Q7 [(3,.sl 0),(7,.imm 1 D),(8,.i .i64 a2),(9,.i .i64 a3)]) [some (.lst 1 C)]=(run (Jn a a2) (o,a3)).map (λzr=>(XE.exit 0,Q7 [(3,.sl 0)],[some (.lst 1 (zr.map Ij))])):=by
 rcases A,B with⟨⟨rfl⟩,⟨rfl⟩⟩
 rw[QY];simp-dsimp only[↓QW,Xw,QV,func44,f44,Qq4,QeR,TP,TZ,seval];apply Q2 o a3;intro o a3;simp-dsimp+contextual only[↓QW,eZ,seval,Jc]
 try simp only[Jn,eY]
 repeat rfl
def Fm{B l}[A:QC Q9 B l]:CP T (n+4) 44 [.imm 1 B]=(XJ l).map λr=>.s r:=by
 obtain⟨rfl⟩:=A;rw[QM];simp-dsimp+contextual only[↓QW,eZ,seval,func44,f44,Qq4,QeR,Lv,LY]
 try simp only[XJ,eY]
 repeat rfl
def Pw(a2 a3){D w E o F a}[A:QC Ij D w][B:QC Q9 E o][C:QC Ij F a]:LP T (n+5) 46 3 (Q7 [(0,.imm 1 D),(4,.sl 0),(11,.imm 1 F),(12,.i .i64 a2),(13,.i .i64 a3)]) [some (.lst 1 E)]=Xt (run (Xo w a a2) (o,a3)) (λzr=>(XE.ret,Q7 [(2,.sl 0),(3,.b zr.2)],[some (.lst 1 (zr.1.map Q9))])) (λzr=>(XE.exit 0,Q7 [(4,.sl 0)],[some (.lst 1 (zr.map Q9))])):=by
 rcases A,B,C with⟨⟨rfl⟩,⟨rfl⟩,⟨rfl⟩⟩
 rw[QY];simp-dsimp only[↓QW,Xw,QV,func46,f46,Qtm,Qdq,TP,TZ,Nat.reduceAdd,Nat.reduceMul,Nat.reduceBEq,Nat.reduceLeDiff,Nat.reduceLT];apply Q2 o a3;intro o a3;simp-dsimp+contextual only[↓QW,eZ,Nat.reduceAdd,Nat.reduceMul,Nat.reduceBEq,Nat.reduceLeDiff,Nat.reduceLT,GQ,PI]
 try simp only[Xo,eY]
 repeat rfl
def Wq{B w}[A:QC Ij B w]:CP T (n+6) 46 [.imm 1 B]=(Ac w).map λr=>.tup [.own 1 (r.1.map Q9),.b r.2]:=by
 obtain⟨rfl⟩:=A;rw[QM];simp-dsimp+contextual only[↓QW,eZ,seval,func46,f46,Qtm,Qdq,Pw]
 try simp only[Ac,eY]
 all_goals first|rfl|(simp +contextual only[B8]<;>rfl)
def Pe:CP T (n+1) 134 []=(impl_ExampleSlots).map λr=>.own 3 (r.map VA):=by
 rw[QM];simp-dsimp+contextual only[↓QW,eZ,seval,func134,f134,Qov,zQ]
 try simp only[impl_ExampleSlots,eY]
 all_goals first|rfl|(simp +contextual only[B8]<;>rfl)
def Ri(a2 a3){C l D a}[A:QC Xb C l][B:QC Xb D a]:LP T (n+2) 318 4 (Q7 [(0,.imm 2 C),(8,.imm 2 D),(9,.i .i64 a2),(10,.i .i64 a3)]) []=Xt (run (BF l a a2) a3) (λzr=>(XE.ret,Q7 [(2,.b zr)],[])) (λzr=>(XE.exit 0,Q7 [],[])):=by
 rcases A,B with⟨⟨rfl⟩,⟨rfl⟩⟩
 rw[QY];simp-dsimp only[↓QW,Xw,QV,func318,f318,Qfx,pl,TP,TZ,seval];apply Q5 a3;intro a3;simp-dsimp+contextual only[↓QW,eZ,seval,Vo]
 try simp only[BF,eY]
 repeat rfl
def IU{B l}[A:QC Xb B l]:CP T (n+3) 318 [.imm 2 B]=(CZ l).map λr=>.b r:=by
 obtain⟨rfl⟩:=A;rw[QM];simp-dsimp+contextual only[↓QW,eZ,seval,func318,f318,Qfx,pl,Ri]
 try simp only[CZ,eY]
 repeat rfl
def N7(a2 a3){C l D a}[A:QC VC C l][B:QC VC D a]:LP T (n+4) 298 4 (Q7 [(0,.imm 3 C),(8,.imm 3 D),(9,.i .i64 a2),(10,.i .i64 a3)]) []=Xt (run (ZN l a a2) a3) (λzr=>(XE.ret,Q7 [(2,.b zr)],[])) (λzr=>(XE.exit 0,Q7 [],[])):=by
 rcases A,B with⟨⟨rfl⟩,⟨rfl⟩⟩
 rw[QY];simp-dsimp only[↓QW,Xw,QV,func298,f298,QfD,qm,TP,TZ,seval];apply Q5 a3;intro a3;simp-dsimp+contextual only[↓QW,eZ,seval,Vo,IU]
 try simp only[ZN,eY]
 repeat rfl
def K7{B l}[A:QC VC B l]:CP T (n+5) 298 [.imm 3 B]=(AP l).map λr=>.b r:=by
 obtain⟨rfl⟩:=A;rw[QM];simp-dsimp+contextual only[↓QW,eZ,seval,func298,f298,QfD,qm,N7]
 try simp only[AP,eY]
 repeat rfl
def Ts(c){B a}[A:QD VA B a]:CP T (n+1) 313 [.agg B,.iptr 1 [[.i .i64 c]] 0 0]=(GS a c).map λr=>.b r:=by
 obtain⟨rfl⟩:=A;rw[QM];simp-dsimp+contextual only[↓QW,eZ,seval,func313,f313,Qtw,Qba]
 try simp only[GS,eY]
 repeat rfl
def DN(f a a2){B s}[A:QC VA B s]:LP T (n+2) 312 2 (Q7 [(0,.imm 3 B),(1,.clo 313 [.iptr 1 [[.i .i64 f]] 0 0]),(7,.i .i64 a),(8,.i .i64 a2)]) []=Xt (run (Vy s f a) a2) (λzr=>(XE.ret,Q7 [(4,.i .i64 zr)],[])) (λzr=>(XE.exit 0,Q7 [],[])):=by
 obtain⟨rfl⟩:=A;rw[QY];simp-dsimp only[↓QW,Xw,QV,func312,f312,QgN,qE,TP,TZ,seval];apply Q5 a2;intro a2;simp-dsimp+contextual only[↓QW,eZ,seval,Ts]
 try simp only[Vy,eY]
 repeat rfl
def EZ(c){B s}[A:QC VA B s]:CP T (n+3) 312 [.imm 3 B,.clo 313 [.iptr 1 [[.i .i64 c]] 0 0]]=(Xq s c).map λr=>.i .i64 r:=by
 obtain⟨rfl⟩:=A;rw[QM];simp-dsimp+contextual only[↓QW,eZ,seval,func312,f312,QgN,qE,DN]
 try simp only[Xq,eY]
 repeat rfl
def AT(a){B l}[A:QC VA B l]:CP T (n+4) 228 [.imm 3 B,.i .i64 a]=(X7 l a).map λr=>.i .i64 r:=by
 obtain⟨rfl⟩:=A;rw[QM];simp-dsimp+contextual only[↓QW,eZ,seval,func228,f228,Qqm,Qbb,EZ]
 try simp only[X7,eY]
 repeat rfl
def ej(a){B l}[A:QC VA B l]:CP T (n+5) 344 [.imm 3 B,.i .i64 a]=(G3 l a).map λr=>.i .i64 r:=by
 obtain⟨rfl⟩:=A;rw[QM];simp-dsimp+contextual only[↓QW,eZ,seval,func344,f344,Qtx,xn,AT]
 try simp only[G3,eY]
 repeat rfl
def PO(a2 a3){C l D a}[A:QC VA C l][B:QC VA D a]:LP T (n+6) 299 4 (Q7 [(0,.imm 3 C),(8,.imm 3 D),(9,.i .i64 a2),(10,.i .i64 a3)]) []=Xt (run (By l a a2) a3) (λzr=>(XE.ret,Q7 [(2,.b zr)],[])) (λzr=>(XE.exit 0,Q7 [],[])):=by
 rcases A,B with⟨⟨rfl⟩,⟨rfl⟩⟩
 rw[QY];simp-dsimp only[↓QW,Xw,QV,func299,f299,Qe8,pV,TP,TZ,seval];apply Q5 a3;intro a3;simp-dsimp+contextual only[↓QW,eZ,seval,Vo,ej]
 try simp only[By,eY]
 repeat rfl
def I3{B l}[A:QC VA B l]:CP T (n+7) 299 [.imm 3 B]=(Br l).map λr=>.b r:=by
 obtain⟨rfl⟩:=A;rw[QM];simp-dsimp+contextual only[↓QW,eZ,seval,func299,f299,Qe8,pV,PO]
 try simp only[Br,eY]
 repeat rfl
def Pl(a3 a4 a6 a7){E l F a G a2 H a5}[A:QC QZ E l][B:QD QZ F a][C:QC QZ G a2][D:QC QZ H a5]:LP T (n+1) 300 9 (Q7 [(0,.imm 5 E),(4,.ptr 0 0 0),(10,.imm 5 G),(11,.i .i64 a3),(12,.i .i64 a4),(62,.imm 5 H),(63,.i .i64 a6),(64,.i .i64 a7)]) [some (.box F)]=Xt (run (Zc l a a2 a3 a4 a5 a6) a7) (λzr=>(XE.ret,Q7 [(2,.b zr)],[])) (λzr=>(XE.exit 2,Q7 [(0,.imm 5 (l.map QZ)),(10,.imm 5 (a2.map QZ)),(11,.i .i64 a3),(12,.i .i64 a4)],[])):=by
 rcases A,B,C,D with⟨⟨rfl⟩,⟨rfl⟩,⟨rfl⟩,⟨rfl⟩⟩
 rw[QY];simp-dsimp only[↓QW,Xw,QV,func300,f300,uM,lF,TP,TZ,seval];apply Q5 a7;intro a7;simp-dsimp+contextual only[↓QW,eZ,seval]
 try simp only[Zc,eY]
 repeat rfl
def OJ(a2 a3){C l D a}[A:QC QZ C l][B:QC QZ D a]:LP T (n+2) 300 4 (Q7 [(0,.imm 5 C),(10,.imm 5 D),(11,.i .i64 a2),(12,.i .i64 a3)]) []=Xt (run (AJ l a a2) a3) (λzr=>(XE.ret,Q7 [(2,.b zr)],[])) (λzr=>(XE.exit 0,Q7 [],[])):=by
 rcases A,B with⟨⟨rfl⟩,⟨rfl⟩⟩
 rw[QY];simp-dsimp only[↓QW,Xw,QV,func300,f300,uM,lF,TP,TZ,seval];apply Q5 a3;intro a3;simp-dsimp+contextual only[↓QW,eZ,seval,Vo,Pl]
 try simp only[AJ,eY]
 repeat rfl
def Ii{B l}[A:QC QZ B l]:CP T (n+3) 300 [.imm 5 B]=(Jr l).map λr=>.b r:=by
 obtain⟨rfl⟩:=A;rw[QM];simp-dsimp+contextual only[↓QW,eZ,seval,func300,f300,uM,lF,OJ]
 try simp only[Jr,eY]
 repeat rfl
def lS(p q):CP T (n+2) 380 [.i .i64 p,.i .i64 q]=(Ia p q).map λr=>.i .i64 r:=by
 rw[QM];simp-dsimp+contextual only[↓QW,eZ,seval,func380,f380,Qod,uP,Vo]
 try simp only[Ia,eY]
 repeat rfl
end Go.Proofs.YtkgadcbajihilaaGreatDoor
