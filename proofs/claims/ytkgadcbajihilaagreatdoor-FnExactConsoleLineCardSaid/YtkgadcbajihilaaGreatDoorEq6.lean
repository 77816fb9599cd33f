import Derived.Test.YtkgadcbajihilaaGreatDoorEq5
set_option maxHeartbeats 4000000
set_option linter.unusedVariables false
set_option linter.unusedSimpArgs false
set_option linter.defProp false
set_option maxRecDepth 100000
namespace Go.Proofs.YtkgadcbajihilaaGreatDoor
open Go Go.Proofs Go.Proofs.YtkgadcbajihilaaGreatDoor.Am Tryz
variable(n:Nat)
def Lp(a2){B a}[A:QD Va B a]:CP T (n+12) 233 [.agg B,.i .i64 a2]=(DO a a2).map λr=>.tup [.agg (Vn r.1),.b r.2]:=by
 obtain⟨rfl⟩:=A;rw[QM];simp-dsimp+contextual(maxSteps:=1000000)only[↓QW,eZ,seval,func233,f233,Qsv,Qae,JL,Ae,AT]
 try simp only[DO,eY]
 repeat rfl
def M2(a f a3 a4){C b D a2}[A:QD QZ C b][B:QC QZ D a2]:LP T (n+1) 234 4 (Q7 [(1,.i .i64 a),(5,.ptr 0 0 0),(6,.b f),(10,.imm 5 D),(11,.i .i64 a3),(12,.i .i64 a4)]) [some (.box C)]=(run (V7 a a2 a3) (b,f,a4)).map (λzr=>(XE.exit 0,Q7 [(5,.ptr 0 0 0)],[some (.box (QZ zr))])):=by
 rcases A,B with⟨⟨rfl⟩,⟨rfl⟩⟩
 rw[QY];simp-dsimp only[↓QW,Xw,QV,func234,f234,QfB,qn,TP,TZ,seval];apply Ba b f a4;intro b f a4;simp-dsimp+contextual only[↓QW,eZ,seval]
 try simp only[V7,eY]
 repeat rfl
def Kr(a){B l}[A:QC QZ B l]:CP T (n+2) 234 [.imm 5 B,.i .i64 a]=(ZV l a).map λr=>.i .i64 r:=by
 obtain⟨rfl⟩:=A;rw[QM];simp-dsimp+contextual only[↓QW,eZ,seval,func234,f234,QfB,qn,M2]
 try simp only[ZV,eY]
 repeat rfl
def bi(a){B l}[A:QC VA B l]:CP T (n+8) 320 [.imm 3 B,.i .i64 a]=(F3 l a).map λr=>.tup [.own 3 (r.1.map VA),.b r.2]:=by
 obtain⟨rfl⟩:=A;rw[QM];simp-dsimp+contextual only[↓QW,eZ,seval,func320,f320,Qsp,yI,C7,AT,I3]
 try simp only[F3,eY]
 all_goals first|rfl|(simp +contextual only[B8]<;>rfl)
def Lj(a2 a3 w){B a}[A:QD Va B a]:CP T (n+10) 235 [.agg B,.i .i64 a2,.i .i64 a3,.i .i64 w]=(CN a a2 a3 w).map λr=>.tup [.agg (Xi r.1),.b r.2]:=by
 obtain⟨rfl⟩:=A;rw[QM];simp-dsimp+contextual(maxSteps:=1000000)only[↓QW,eZ,seval,func235,f235,Qqh,Qa5,Xd,bi,Od]
 try simp only[CN,eY]
 repeat rfl
def ex(d){B a}[A:QD CW B a]:CP T (n+3) 236 [.agg B,.i .i64 d]=(IA a d).map λr=>.i .i64 r:=by
 obtain⟨rfl⟩:=A;rw[QM];simp-dsimp+contextual only[↓QW,eZ,seval,func236,f236,QlX,zY,Kn,Vo]
 try simp only[IA,eY]
 repeat rfl
def MQ{C l D a}[A:QC Vx C l][B:QD Vx D a]:CP T (n+4) 237 [.imm 4 C,.agg D]=(Bh l a).map λr=>.tup [.own 4 (r.1.map Vx),.b r.2]:=by
 rcases A,B with⟨⟨rfl⟩,⟨rfl⟩⟩
 rw[QM];simp-dsimp+contextual only[↓QW,eZ,seval,func237,f237,QlS,vA,ID,E8]
 try simp only[Bh,eY]
 try simp only[List.contains_nil,Qi,Bool.and_true,T7,List.length_append,List.length_cons,List.length_nil,Nat.zero_add,th,jG]
 all_goals first|rfl|(simp +contextual only[B8]<;>rfl)
def UC(a2){B a}[A:QD Va B a]:CP T (n+13) 138 [.agg B,.i .i64 a2]=(Do a a2).map λr=>.tup [.agg (Xi r.1),.b r.2]:=by
 obtain⟨rfl⟩:=A;rw[QM];simp-dsimp+contextual(maxSteps:=1000000)only[↓QW,eZ,seval,func138,f138,Qtr,vS,Ni,Lp,Kr,Xd,BC,Lj,MK,ex,MQ,DJ]
 try simp only[Do,eY]
 repeat rfl
def YG(k):CP T (n+1) 362 [.i .i64 k]=(Gt k).map λr=>.i .i64 r:=by
 rw[QM];simp-dsimp+contextual only[↓QW,eZ,seval,func362,f362,Qm3,ut]
 try simp only[Gt,eY]
 repeat rfl
def cQ{B f}[A:QD Vn B f]:CP T (n+4) 329 [.agg B]=(Hj f).map λr=>.i .i64 r:=by
 obtain⟨rfl⟩:=A;rw[QM];simp-dsimp+contextual only[↓QW,eZ,seval,func329,f329,Qlh,xH,Ix,YG]
 try simp only[Hj,eY]
 repeat rfl
def Mi(a){B f}[A:QD Vn B f]:CP T (n+5) 250 [.agg B,.i .i64 a]=(BT f a).map λr=>.b r:=by
 obtain⟨rfl⟩:=A;rw[QM];simp-dsimp+contextual only[↓QW,eZ,seval,func250,f250,Qmn,v8,Ix,cQ]
 try simp only[BT,eY]
 repeat rfl
def Yz{C c D c2}[A:QD QZ C c][B:QD CW D c2]:CP T (n+1) 252 [.agg C,.iptr 5 [D] 0 0]=(Iv c c2).map λr=>.b r:=by
 rcases A,B with⟨⟨rfl⟩,⟨rfl⟩⟩
 rw[QM];simp-dsimp+contextual only[↓QW,eZ,seval,func252,f252,Qr3,QaT]
 try simp only[Iv,eY]
 repeat rfl
def D3(a a2){C s D f}[A:QC QZ C s][B:QD CW D f]:LP T (n+2) 242 2 (Q7 [(0,.imm 5 C),(1,.clo 252 [.iptr 5 [D] 0 0]),(7,.i .i64 a),(8,.i .i64 a2)]) []=Xt (run (VB s f a) a2) (λzr=>(XE.ret,Q7 [(4,.i .i64 zr)],[])) (λzr=>(XE.exit 0,Q7 [],[])):=by
 rcases A,B with⟨⟨rfl⟩,⟨rfl⟩⟩
 rw[QY];simp-dsimp only[↓QW,Xw,QV,func242,f242,WS,PB,TP,TZ,seval];apply Q5 a2;intro a2;simp-dsimp+contextual only[↓QW,eZ,seval,Yz]
 try simp only[VB,eY]
 repeat rfl
def Fe{C s D c}[A:QC QZ C s][B:QD CW D c]:CP T (n+3) 242 [.imm 5 C,.clo 252 [.iptr 5 [D] 0 0]]=(Xu s c).map λr=>.i .i64 r:=by
 rcases A,B with⟨⟨rfl⟩,⟨rfl⟩⟩
 rw[QM];simp-dsimp+contextual only[↓QW,eZ,seval,func242,f242,WS,PB,D3]
 try simp only[Xu,eY]
 repeat rfl
def DS{C s D c}[A:QC QZ C s][B:QD CW D c]:CP T (n+4) 251 [.imm 5 C,.clo 252 [.iptr 5 [D] 0 0]]=(VR s c).map λr=>.b r:=by
 rcases A,B with⟨⟨rfl⟩,⟨rfl⟩⟩
 rw[QM];simp-dsimp+contextual only[↓QW,eZ,seval,func251,f251,Qa1,kf,Fe]
 try simp only[VR,eY]
 repeat rfl
def Li(a){C f D l}[A:QD Vn C f][B:QC QZ D l]:CP T (n+6) 149 [.agg C,.imm 5 D,.i .i64 a]=(DQ f l a).map λr=>.i .i64 r:=by
 rcases A,B with⟨⟨rfl⟩,⟨rfl⟩⟩
 rw[QM];simp-dsimp+contextual only[↓QW,eZ,seval,func149,f149,QmP,wj,Kr,Mi,DS]
 try simp only[DQ,eY]
 repeat rfl
def UM{D a E o F d}[A:QD Va D a][B:QD Va E o][C:QC sH F d]:CM T (n+12) 226 [some (.lst 1 F)] [.agg D,.agg E,.sl 0]=(DK a o d).map λr=>.tup [.agg (Xi r.1),.b r.2]:=by
 rcases A,B,C with⟨⟨rfl⟩,⟨rfl⟩,⟨rfl⟩⟩
 rw[Y8];simp-dsimp+contextual(maxSteps:=1000000)only[↓QW,eZ,seval,func226,f226,wT,kQ,D0,Ae,Xd]
 try simp only[DK,eY]
 repeat rfl
def Wg(a2){B a}[A:QD Va B a]:CP T (n+13) 139 [.agg B,.i .i64 a2]=(Dx a a2).map λr=>.tup [.agg (Xi r.1),.b r.2]:=by
 obtain⟨rfl⟩:=A;rw[QM];simp-dsimp+contextual(maxSteps:=1000000)only[↓QW,eZ,seval,func139,f139,Qm9,uB,Ni,Lp,Xd,Li,Lj,DJ,UM]
 try simp only[Dx,eY]
 repeat rfl
def iF{B a}[A:QD JK B a]:CP T (n+2) 354 [.agg B]=(KF a).map λr=>.b r:=by
 obtain⟨rfl⟩:=A;rw[QM];simp-dsimp+contextual only[↓QW,eZ,seval,func354,f354,Qrg,zL,Vo]
 try simp only[KF,eY]
 repeat rfl
def Uj{C a D c}[A:QD JK C a][B:QD JK D c]:CP T (n+1) 356 [.agg C,.iptr 3 [D] 0 0]=(Hp a c).map λr=>.b r:=by
 rcases A,B with⟨⟨rfl⟩,⟨rfl⟩⟩
 rw[QM];simp-dsimp+contextual only[↓QW,eZ,seval,func356,f356,Qr8,xa]
 try simp only[Hp,eY]
 repeat rfl
def Er(a a2){C s D f}[A:QC JK C s][B:QD JK D f]:LP T (n+2) 377 2 (Q7 [(0,.imm 3 C),(1,.clo 356 [.iptr 3 [D] 0 0]),(7,.i .i64 a),(8,.i .i64 a2)]) []=Xt (run (VG s f a) a2) (λzr=>(XE.ret,Q7 [(4,.i .i64 zr)],[])) (λzr=>(XE.exit 0,Q7 [],[])):=by
 rcases A,B with⟨⟨rfl⟩,⟨rfl⟩⟩
 rw[QY];simp-dsimp only[↓QW,Xw,QV,func377,f377,Qe1,rj,TP,TZ,seval];apply Q5 a2;intro a2;simp-dsimp+contextual only[↓QW,eZ,seval,Uj]
 try simp only[VG,eY]
 repeat rfl
def Fh{C s D c}[A:QC JK C s][B:QD JK D c]:CP T (n+3) 377 [.imm 3 C,.clo 356 [.iptr 3 [D] 0 0]]=(Xy s c).map λr=>.i .i64 r:=by
 rcases A,B with⟨⟨rfl⟩,⟨rfl⟩⟩
 rw[QM];simp-dsimp+contextual only[↓QW,eZ,seval,func377,f377,Qe1,rj,Er]
 try simp only[Xy,eY]
 repeat rfl
def Ep{C s D c}[A:QC JK C s][B:QD JK D c]:CP T (n+4) 355 [.imm 3 C,.clo 356 [.iptr 3 [D] 0 0]]=(VT s c).map λr=>.b r:=by
 rcases A,B with⟨⟨rfl⟩,⟨rfl⟩⟩
 rw[QM];simp-dsimp+contextual only[↓QW,eZ,seval,func355,f355,Qty,uj,Fh]
 try simp only[VT,eY]
 repeat rfl
def SU(a2 a3){C l D a}[A:QC JK C l][B:QC JK D a]:LP T (n+5) 321 4 (Q7 [(0,.imm 3 C),(8,.imm 3 D),(9,.i .i64 a2),(10,.i .i64 a3)]) []=Xt (run (Cl l a a2) a3) (λzr=>(XE.ret,Q7 [(2,.b zr)],[])) (λzr=>(XE.exit 0,Q7 [],[])):=by
 rcases A,B with⟨⟨rfl⟩,⟨rfl⟩⟩
 rw[QY];simp-dsimp only[↓QW,Xw,QV,func321,f321,QgU,oK,TP,TZ,seval];apply Q5 a3;intro a3;simp-dsimp+contextual only[↓QW,eZ,seval,iF,Ep]
 try simp only[Cl,eY]
 repeat rfl
def aq{B l}[A:QC JK B l]:CP T (n+6) 321 [.imm 3 B]=(Kd l).map λr=>.b r:=by
 obtain⟨rfl⟩:=A;rw[QM];simp-dsimp+contextual only[↓QW,eZ,seval,func321,f321,QgU,oK,SU]
 try simp only[Kd,eY]
 repeat rfl
def RN{B s}[A:QC JK B s]:CP T (n+1) 357 [.imm 3 B]=(FW s).map λr=>.own 3 (r.map JK):=by
 obtain⟨rfl⟩:=A;rw[QM];simp-dsimp+contextual only[↓QW,eZ,seval,func357,f357,Qpm,QaY]
 try simp only[FW,eY]
 all_goals first|rfl|(simp +contextual only[B8]<;>rfl)
def W0(a):CP T (n+1) 379 [.i .i64 a]=(Gq a).map λr=>.b r:=by
 rw[QM];simp-dsimp+contextual only[↓QW,eZ,seval,func379,f379,QnB,w7]
 try simp only[Gq,eY]
 repeat rfl
def SL(a a2):CP T (n+2) 360 [.i .i64 a,.i .i64 a2]=(GR a a2).map λr=>.i .i64 r:=by
 rw[QM];simp-dsimp+contextual only[↓QW,eZ,seval,func360,f360,Qnj,Qay,W0]
 try simp only[GR,eY]
 repeat rfl
def Pb{C a D b}[A:QD JK C a][B:QD JK D b]:CP T (n+3) 359 [.agg C,.agg D]=(CF a b).map λr=>.i .i64 r:=by
 rcases A,B with⟨⟨rfl⟩,⟨rfl⟩⟩
 rw[QM];simp-dsimp+contextual only[↓QW,eZ,seval,func359,f359,Qq6,vz,SL]
 try simp only[CF,eY]
 repeat rfl
def Ai(a b i j){B d}[A:QC JK B d]:LP T (n+4) 393 4 (Q7 [(0,.sl 0),(1,.i .i64 a),(2,.i .i64 b),(3,.clo 359 []),(8,.i .i64 i),(9,.i .i64 j)]) [some (.lst 3 B)]=(run (Vl a b i) (d,j)).map (λzr=>(XE.exit 2,Q7 [(0,.sl 0),(1,.i .i64 a),(2,.i .i64 b),(3,.clo 359 []),(8,.i .i64 i)],[some (.lst 3 (zr.map JK))])):=by
 obtain⟨rfl⟩:=A;rw[QY];simp-dsimp only[↓QW,Xw,QV,func393,f393,vY,jx,TP,TZ,seval];apply Q2 d j;intro d j;simp-dsimp+contextual only[↓QW,eZ,seval,Pb]
 try simp only[Vl,eY]
 repeat rfl
def Ah(a b i){B d}[A:QC JK B d]:LP T (n+5) 393 1 (Q7 [(0,.sl 0),(1,.i .i64 a),(2,.i .i64 b),(3,.clo 359 []),(8,.i .i64 i)]) [some (.lst 3 B)]=(run (Vc a b) (d,i)).map (λzr=>(XE.exit 0,Q7 [(0,.sl 0)],[some (.lst 3 (zr.map JK))])):=by
 obtain⟨rfl⟩:=A;rw[QY];simp-dsimp only[↓QW,Xw,QV,func393,f393,vY,jx,TP,TZ,seval];apply Q2 d i;intro d i;simp-dsimp+contextual only[↓QW,eZ,seval,Ai]
 try simp only[Vc,eY]
 repeat rfl
def XS(a b){B d}[A:QC JK B d]:CA T (n+6) 393 [some (.lst 3 B)] [.sl 0,.i .i64 a,.i .i64 b,.clo 359 []]=(Q8 d a b).map λr=>(.tup [],[some (.lst 3 (r.map JK))]):=by
 obtain⟨rfl⟩:=A;rw[MJ];simp-dsimp+contextual only[↓QW,eZ,seval,func393,f393,vY,jx,Ah]
 try simp only[Q8,eY]
 repeat rfl
def B5(a b a2 b2){B d}[A:QC JK B d]:LP T (n+7) 378 2 (Q7 [(0,.sl 0),(1,.i .i64 a),(2,.clo 359 []),(6,.i .i64 b),(7,.i .i64 a2),(8,.i .i64 b2)]) [some (.lst 3 B)]=(run (Vh a b) (d,a2,b2)).map (λzr=>(XE.exit 0,Q7 [(0,.sl 0),(1,.i .i64 a),(2,.clo 359 []),(6,.i .i64 b),(7,.i .i64 zr.2)],[some (.lst 3 (zr.1.map JK))])):=by
 obtain⟨rfl⟩:=A;rw[QY];simp-dsimp only[↓QW,Xw,QV,func378,f378,pt,fA,TP,TZ,seval];apply Ba d a2 b2;intro d a2 b2;simp-dsimp+contextual only[↓QW,eZ,seval,Ni,XS]
 try simp only[Vh,eY]
 repeat rfl
def B6(a b a2 b2){B d}[A:QC JK B d]:LP T (n+2) 378 9 (Q7 [(0,.sl 0),(1,.i .i64 a),(2,.clo 359 []),(6,.i .i64 b),(7,.i .i64 a2),(8,.i .i64 b2)]) [some (.lst 3 B)]=(run (Xs d a b a2 b2) ()).map (λzr=>(XE.exit 4,Q7 [(0,.sl 0),(1,.i .i64 a),(2,.clo 359 []),(6,.i .i64 b),(7,.i .i64 a2)],[some (.lst 3 (d.map JK))])):=by
 obtain⟨rfl⟩:=A;rw[QY];simp-dsimp only[↓QW,Xw,QV,func378,f378,pt,fA,TP,TZ,seval];apply yQ;simp-dsimp+contextual only[↓QW,eZ,seval,Ni]
 try simp only[Xs,eY]
 repeat rfl
def B4(a b){B d}[A:QC JK B d]:LP T (n+3) 378 7 (Q7 [(0,.sl 0),(1,.i .i64 a),(2,.clo 359 []),(6,.i .i64 b)]) [some (.lst 3 B)]=(run (VE d a) b).map (λzr=>(XE.exit 2,Q7 [(0,.sl 0)],[some (.lst 3 (d.map JK))])):=by
 obtain⟨rfl⟩:=A;rw[QY];simp-dsimp only[↓QW,Xw,QV,func378,f378,pt,fA,TP,TZ,seval];apply Q5 b;intro b;simp-dsimp+contextual only[↓QW,eZ,seval,Ni,B6]
 try simp only[VE,eY]
 repeat rfl
def C3(a){B d}[A:QC JK B d]:CA T (n+8) 378 [some (.lst 3 B)] [.sl 0,.i .i64 a,.clo 359 []]=(V4 d a).map λr=>(.tup [],[some (.lst 3 (r.map JK))]):=by
 obtain⟨rfl⟩:=A;rw[MJ];simp-dsimp+contextual only[↓QW,eZ,seval,func378,f378,pt,fA,Ni,XS,B5,B4]
 try simp only[V4,eY]
 repeat rfl
def CU{B a}[A:QC JK B a]:CA T (n+9) 358 [some (.lst 3 B)] [.sl 0,.clo 359 []]=(VZ a).map λr=>(.tup [],[some (.lst 3 (r.map JK))]):=by
 obtain⟨rfl⟩:=A;rw[MJ];simp-dsimp+contextual only[↓QW,eZ,seval,func358,f358,Ql2,Qbc,Ni,C3]
 try simp only[VZ,eY]
 repeat rfl
def SK{B l}[A:QC JK B l]:CP T (n+10) 322 [.imm 3 B]=(Ez l).map λr=>.own 3 (r.map JK):=by
 obtain⟨rfl⟩:=A;rw[QM];simp-dsimp+contextual only[↓QW,eZ,seval,func322,f322,QpI,QaU,Ni,RN,CU]
 try simp only[Ez,eY]
 all_goals first|rfl|(simp +contextual only[B8]<;>rfl)
def d8{B l}[A:QC JK B l]:CP T (n+11) 238 [.imm 3 B]=(IL l).map λr=>.tup [.i .i64 r.1,.i .i64 r.2]:=by
 obtain⟨rfl⟩:=A;rw[QM];simp-dsimp+contextual only[↓QW,eZ,Nat.reduceAdd,Nat.reduceMul,Nat.reduceBEq,Nat.reduceLeDiff,Nat.reduceLT,func238,f238,QoT,Qak,aq,SK]
 try simp only[IL,eY]
 repeat rfl
def NS(c s a2 a3){D p E o F a}[A:QC Q9 D p][B:QC Q9 E o][C:QC Q9 F a]:LP T (n+2) 323 6 (Q7 [(0,.i .i64 c),(1,.imm 1 D),(5,.sl 0),(6,.i .i64 s),(25,.imm 1 F),(26,.i .i64 a2),(27,.i .i64 a3)]) [some (.lst 1 E)]=Xt (run (ZM c p o a a2) (s,a3)) (λzr=>(XE.ret,Q7 [(4,.sl 0)],[some (.lst 1 (zr.map Q9))])) (λzr=>(XE.exit 0,Q7 [(0,.i .i64 c),(1,.imm 1 (p.map Q9)),(5,.sl 0),(6,.i .i64 zr)],[some (.lst 1 (o.map Q9))])):=by
 rcases A,B,C with⟨⟨rfl⟩,⟨rfl⟩,⟨rfl⟩⟩
 rw[QY];simp-dsimp only[↓QW,Xw,QV,func323,f323,qJ,fu,TP,TZ,seval];apply Q2 s a3;intro s a3;simp-dsimp+contextual only[↓QW,eZ,seval,Vo]
 try simp only[ZM,eY]
 repeat rfl
def M4(c s l a2 a3){C o D a}[A:QC Q9 C o][B:QC Q9 D a]:LP T (n+1) 323 16 (Q7 [(0,.i .i64 c),(5,.sl 0),(6,.i .i64 s),(9,.i .i64 l),(43,.imm 1 D),(44,.i .i64 a2),(45,.i .i64 a3)]) [some (.lst 1 C)]=(run (Ji c s a a2) (o,l,a3)).map (λzr=>(XE.exit 2,Q7 [(5,.sl 0),(9,.i .i64 zr.2)],[some (.lst 1 (zr.1.map Q9))])):=by
 rcases A,B with⟨⟨rfl⟩,⟨rfl⟩⟩
 rw[QY];simp-dsimp only[↓QW,Xw,QV,func323,f323,qJ,fu,TP,TZ,seval];apply Ba o l a3;intro o l a3;simp-dsimp+contextual only[↓QW,eZ,seval]
 try simp only[Ji,eY]
 repeat rfl
def Nc(l i){B o}[A:QC Q9 B o]:LP T (n+1) 323 23 (Q7 [(5,.sl 0),(9,.i .i64 l),(13,.i .i64 i)]) [some (.lst 1 B)]=(run Zi (o,l,i)).map (λzr=>(XE.exit 4,Q7 [(5,.sl 0)],[some (.lst 1 (zr.map Q9))])):=by
 obtain⟨rfl⟩:=A;rw[QY];simp-dsimp only[↓QW,Xw,QV,func323,f323,qJ,fu,TP,TZ,seval];apply Ba o l i;intro o l i;simp-dsimp+contextual only[↓QW,eZ,seval]
 try simp only[Zi,eY]
 repeat rfl
def RW(c){B p}[A:QC Q9 B p]:CP T (n+3) 323 [.i .i64 c,.imm 1 B]=(Ea c p).map λr=>.own 1 (r.map Q9):=by
 obtain⟨rfl⟩:=A;rw[QM];simp-dsimp+contextual only[↓QW,eZ,seval,func323,f323,qJ,fu,Vo,NS,M4,Nc]
 try simp only[Ea,eY]
 all_goals first|rfl|(simp +contextual only[B8]<;>rfl)
def bV(p f):CP T (n+4) 239 [.i .i64 p,.i .i64 f]=(Gi p f).map λr=>.own 2 (r.map RG):=by
 rw[QM];simp-dsimp+contextual only[↓QW,eZ,Nat.reduceAdd,Nat.reduceMul,Nat.reduceBEq,Nat.reduceLeDiff,Nat.reduceLT,func239,f239,QtJ,xI,Vo,RW]
 try simp only[Gi,eY]
 all_goals first|rfl|(simp +contextual only[B8]<;>rfl)
def Yw(a2){C a D b}[A:QD Va C a][B:QC JK D b]:CP T (n+13) 140 [.agg C,.i .i64 a2,.imm 3 D]=(EY a a2 b).map λr=>.tup [.agg (Xi r.1),.b r.2]:=by
 rcases A,B with⟨⟨rfl⟩,⟨rfl⟩⟩
 rw[QM];simp-dsimp+contextual(maxSteps:=1000000)only[↓QW,eZ,Nat.reduceAdd,Nat.reduceMul,Nat.reduceBEq,Nat.reduceLeDiff,Nat.reduceLT,func140,f140,Qou,QaX,Ni,Lp,d8,Li,Xd,Lj,MQ,bV,DJ]
 try simp only[EY,eY]
 repeat rfl
def Yo(a2){B a}[A:QD Va B a]:CP T (n+13) 141 [.agg B,.i .i64 a2]=(EE a a2).map λr=>.tup [.agg (Xi r.1),.b r.2]:=by
 obtain⟨rfl⟩:=A;rw[QM];simp-dsimp+contextual(maxSteps:=1000000)only[↓QW,eZ,seval,func141,f141,Qsz,vG,Ni,Xd,Vo,DJ]
 try simp only[EE,eY]
 repeat rfl
def cZ(w){C a D a2}[A:QD Va C a][B:QC Q9 D a2]:CP T (n+14) 47 [.agg C,.s w,.imm 1 D]=(D4 a w a2).map (J1 (λ(r:Ql×Bool×Bool)=>.tup [.agg (Xi r.1),.b r.2.1,.b r.2.2]) λ_=>.tup [.agg [.i .i64 a.No,.z,.z,.z,.z,.z,.z,.z,.i .i64 a.Now],.b false,.b false]):=by
 rcases A,B with⟨⟨rfl⟩,⟨rfl⟩⟩
 rw[QM];simp-dsimp+contextual(maxSteps:=1000000)only[↓QW,eZ,Nat.reduceAdd,Nat.reduceMul,Nat.reduceBEq,Nat.reduceLeDiff,Nat.reduceLT,func47,f47,QwW,QhM,Pe,YH,YK,U8,Tu,UC,Wg,Yw,Yo]
 try simp only[D4,eY]
 repeat rfl
def bu(w){C a D a2}[A:QD Va C a][B:QC Q9 D a2]:CP T (n+14) 47 [.agg C,.s w,.imm 1 D]=Xt (D4 a w a2) (λ(r:Ql×Bool×Bool)=>.tup [.agg (Xi r.1),.b r.2.1,.b r.2.2]) (λ_=>.tup [.agg [.i .i64 a.No,.z,.z,.z,.z,.z,.z,.z,.i .i64 a.Now],.b false,.b false]):=cZ n w
def Uu(c){B a}[A:QD Vq B a]:CP T (n+1) 325 [.agg B,.iptr 1 [[.i .i64 c]] 0 0]=(HR a c).map λr=>.b r:=by
 obtain⟨rfl⟩:=A;rw[QM];simp-dsimp+contextual only[↓QW,eZ,seval,func325,f325,QoO,uR]
 try simp only[HR,eY]
 repeat rfl
def DL(f a a2){B s}[A:QC Vq B s]:LP T (n+2) 324 2 (Q7 [(0,.imm 4 B),(1,.clo 325 [.iptr 1 [[.i .i64 f]] 0 0]),(7,.i .i64 a),(8,.i .i64 a2)]) []=Xt (run (Vz s f a) a2) (λzr=>(XE.ret,Q7 [(4,.i .i64 zr)],[])) (λzr=>(XE.exit 0,Q7 [],[])):=by
 obtain⟨rfl⟩:=A;rw[QY];simp-dsimp only[↓QW,Xw,QV,func324,f324,QgA,ry,TP,TZ,seval];apply Q5 a2;intro a2;simp-dsimp+contextual only[↓QW,eZ,seval,Uu]
 try simp only[Vz,eY]
 repeat rfl
def E2(c){B s}[A:QC Vq B s]:CP T (n+3) 324 [.imm 4 B,.clo 325 [.iptr 1 [[.i .i64 c]] 0 0]]=(Xn s c).map λr=>.i .i64 r:=by
 obtain⟨rfl⟩:=A;rw[QM];simp-dsimp+contextual only[↓QW,eZ,seval,func324,f324,QgA,ry,DL]
 try simp only[Xn,eY]
 repeat rfl
def cC(c){B a}[A:QD Va B a]:CP T (n+4) 241 [.agg B,.i .i64 c]=(Kf a c).map λr=>.i .i64 r:=by
 obtain⟨rfl⟩:=A;rw[QM];simp-dsimp+contextual(maxSteps:=1000000)only[↓QW,eZ,seval,func241,f241,Qlp,QaC,E2]
 try simp only[Kf,eY]
 repeat rfl
def Y7(c){B a}[A:QD Va B a]:CP T (n+5) 142 [.agg B,.i .i64 c]=(FT a c).map λr=>.tup [.agg (Vq r.1),.b r.2]:=by
 obtain⟨rfl⟩:=A;rw[QM];simp-dsimp+contextual(maxSteps:=1000000)only[↓QW,eZ,seval,func142,f142,Qpk,xb,cC]
 try simp only[FT,eY]
 repeat rfl
def SI(a a3 a4){C o D a2}[A:QC Vv C o][B:QC Vv D a2]:LP T (n+1) 246 3 (Q7 [(1,.i .i64 a),(5,.sl 0),(9,.imm 5 D),(10,.i .i64 a3),(11,.i .i64 a4)]) [some (.lst 5 C)]=(run (GV a a2 a3) (o,a4)).map (λzr=>(XE.exit 0,Q7 [(5,.sl 0)],[some (.lst 5 (zr.map Vv))])):=by
 rcases A,B with⟨⟨rfl⟩,⟨rfl⟩⟩
 rw[QY];simp-dsimp only[↓QW,Xw,QV,func246,f246,Qgy,pK,TP,TZ,seval];apply Q2 o a4;intro o a4;simp-dsimp+contextual only[↓QW,eZ,seval]
 try simp only[GV,eY]
 repeat rfl
def ag(a){B l}[A:QC Vv B l]:CP T (n+2) 246 [.imm 5 B,.i .i64 a]=(Hn l a).map λr=>.own 5 (r.map Vv):=by
 obtain⟨rfl⟩:=A;rw[QM];simp-dsimp+contextual only[↓QW,eZ,seval,func246,f246,Qgy,pK,SI]
 try simp only[Hn,eY]
 all_goals first|rfl|(simp +contextual only[B8]<;>rfl)
def SV(a):CP T (n+2) 247 [.i .i64 a]=(Ch a).map λr=>.s r:=by
 rw[QM];simp-dsimp+contextual only[↓QW,eZ,seval,func247,f247,Qs9,zu,Vo]
 try simp only[Ch,eY]
 repeat rfl
def Th(a2 a3){C o D a}[A:QC Ij C o][B:QC Vv D a]:LP T (n+3) 146 3 (Q7 [(5,.sl 0),(11,.sl 1),(12,.i .i64 a2),(13,.i .i64 a3)]) [some (.lst 1 C),some (.lst 5 D)]=(run (Ca a a2) (o,a3)).map (λzr=>(XE.exit 0,Q7 [(5,.sl 0)],[some (.lst 1 (zr.map Ij))])):=by
 rcases A,B with⟨⟨rfl⟩,⟨rfl⟩⟩
 rw[QY];simp-dsimp only[↓QW,Xw,QV,func146,f146,QfE,qo,TP,TZ,seval];apply Q2 o a3;intro o a3;simp-dsimp+contextual only[↓QW,eZ,seval,SV,Jc]
 try simp only[Ca,eY]
 repeat rfl
def bT(a){B l}[A:QC Vv B l]:CP T (n+4) 146 [.imm 5 B,.i .i64 a]=(FZ l a).map λr=>.s r:=by
 obtain⟨rfl⟩:=A;rw[QM];simp-dsimp+contextual only[↓QW,eZ,seval,func146,f146,QfE,qo,ag,FB,Th]
 try simp only[FZ,eY]
 repeat rfl
def YJ(f):CP T (n+1) 148 [.i .i64 f]=(EJ f).map λr=>.s r:=by
 rw[QM];simp-dsimp+contextual only[↓QW,eZ,seval,func148,f148,Qmz,uZ]
 try simp only[EJ,eY]
 repeat rfl
def O0(a a3 a4){C o D a2}[A:QC Q9 C o][B:QC Vn D a2]:LP T (n+6) 150 3 (Q7 [(1,.i .i64 a),(5,.sl 0),(9,.imm 8 D),(10,.i .i64 a3),(11,.i .i64 a4)]) [some (.lst 1 C)]=(run (AE a a2 a3) (o,a4)).map (λzr=>(XE.exit 0,Q7 [(5,.sl 0)],[some (.lst 1 (zr.map Q9))])):=by
 rcases A,B with⟨⟨rfl⟩,⟨rfl⟩⟩
 rw[QY];simp-dsimp only[↓QW,Xw,QV,func150,f150,QfS,oW,TP,TZ,seval];apply Q2 o a4;intro o a4;simp-dsimp+contextual only[↓QW,eZ,seval,Mi]
 try simp only[AE,eY]
 repeat rfl
def Ue(a){B l}[A:QC Vn B l]:CP T (n+7) 150 [.imm 8 B,.i .i64 a]=(Db l a).map λr=>.own 1 (r.map Q9):=by
 obtain⟨rfl⟩:=A;rw[QM];simp-dsimp+contextual only[↓QW,eZ,seval,func150,f150,QfS,oW,O0]
 try simp only[Db,eY]
 all_goals first|rfl|(simp +contextual only[B8]<;>rfl)
def Tr(a a2 a4 a5){B a3}[A:QC Vx B a3]:LP T (n+1) 254 3 (Q7 [(1,.i .i64 a),(5,.i .i64 a2),(8,.imm 4 B),(9,.i .i64 a4),(10,.i .i64 a5)]) []=(run (AQ a a3 a4) (a2,a5)).map (λzr=>(XE.exit 0,Q7 [(5,.i .i64 zr)],[])):=by
 obtain⟨rfl⟩:=A;rw[QY];simp-dsimp only[↓QW,Xw,QV,func254,f254,Qfn,rn,TP,TZ,seval];apply Q2 a2 a5;intro a2 a5;simp-dsimp+contextual only[↓QW,eZ,seval]
 try simp only[AQ,eY]
 repeat rfl
def bX(a){B l}[A:QC Vx B l]:CP T (n+2) 254 [.imm 4 B,.i .i64 a]=(Kg l a).map λr=>.i .i64 r:=by
 obtain⟨rfl⟩:=A;rw[QM];simp-dsimp+contextual only[↓QW,eZ,seval,func254,f254,Qfn,rn,Tr]
 try simp only[Kg,eY]
 repeat rfl
def OV(a a2 a4 a5){B a3}[A:QC Vx B a3]:LP T (n+1) 255 5 (Q7 [(1,.i .i64 a),(5,.i .i64 a2),(12,.imm 4 B),(13,.i .i64 a4),(14,.i .i64 a5)]) []=(run (Ze a a3 a4) (a2,a5)).map (λzr=>(XE.exit 0,Q7 [(5,.i .i64 zr)],[])):=by
 obtain⟨rfl⟩:=A;rw[QY];simp-dsimp only[↓QW,Xw,QV,func255,f255,QfU,oU,TP,TZ,seval];apply Q2 a2 a5;intro a2 a5;simp-dsimp+contextual only[↓QW,eZ,seval]
 try simp only[Ze,eY]
 repeat rfl
def UI(a){B l}[A:QC Vx B l]:CP T (n+4) 255 [.imm 4 B,.i .i64 a]=(HF l a).map λr=>.i .i64 r:=by
 obtain⟨rfl⟩:=A;rw[QM];simp-dsimp+contextual only[↓QW,eZ,seval,func255,f255,QfU,oU,E8,OV]
 try simp only[HF,eY]
 repeat rfl
def KC(a){B l}[A:QC Vx B l]:CP T (n+5) 152 [.imm 4 B,.i .i64 a]=(Z3 l a).map λr=>.i .i64 r:=by
 obtain⟨rfl⟩:=A;rw[QM];simp-dsimp+contextual only[↓QW,eZ,seval,func152,f152,QpD,w5,E8,bX,UI]
 try simp only[Z3,eY]
 repeat rfl
def PT(c):CP T (n+3) 151 [.i .i64 c]=(Df c).map λr=>.s r:=by
 rw[QM];simp-dsimp+contextual only[↓QW,eZ,seval,func151,f151,Qoh,QaA,Vo,Jc]
 try simp only[Df,eY]
 repeat rfl
def M1(a2 a3){C o D a}[A:QC Ij C o][B:QC VA D a]:LP T (n+3) 153 3 (Q7 [(3,.sl 0),(8,.imm 3 D),(9,.i .i64 a2),(10,.i .i64 a3)]) [some (.lst 1 C)]=(run (Zs a a2) (o,a3)).map (λzr=>(XE.exit 0,Q7 [(3,.sl 0)],[some (.lst 1 (zr.map Ij))])):=by
 rcases A,B with⟨⟨rfl⟩,⟨rfl⟩⟩
 rw[QY];simp-dsimp only[↓QW,Xw,QV,func153,f153,Qf3,oz,TP,TZ,seval];apply Q2 o a3;intro o a3;simp-dsimp+contextual only[↓QW,eZ,seval,Jc]
 try simp only[Zs,eY]
 repeat rfl
def P5{B l}[A:QC VA B l]:CP T (n+4) 153 [.imm 3 B]=(Bx l).map λr=>.s r:=by
 obtain⟨rfl⟩:=A;rw[QM];simp-dsimp+contextual only[↓QW,eZ,seval,func153,f153,Qf3,oz,Lv,M1]
 try simp only[Bx,eY]
 repeat rfl
def ME(a2 a3){C o D a}[A:QC Ij C o][B:QC QZ D a]:LP T (n+3) 154 3 (Q7 [(3,.sl 0),(8,.imm 5 D),(9,.i .i64 a2),(10,.i .i64 a3)]) [some (.lst 1 C)]=(run (JO a a2) (o,a3)).map (λzr=>(XE.exit 0,Q7 [(3,.sl 0)],[some (.lst 1 (zr.map Ij))])):=by
 rcases A,B with⟨⟨rfl⟩,⟨rfl⟩⟩
 rw[QY];simp-dsimp only[↓QW,Xw,QV,func154,f154,QgB,pT,TP,TZ,seval];apply Q2 o a3;intro o a3;simp-dsimp+contextual only[↓QW,eZ,seval,Vo,Jc]
 try simp only[JO,eY]
 repeat rfl
def Pv{B l}[A:QC QZ B l]:CP T (n+4) 154 [.imm 5 B]=(AD l).map λr=>.s r:=by
 obtain⟨rfl⟩:=A;rw[QM];simp-dsimp+contextual only[↓QW,eZ,seval,func154,f154,QgB,pT,Lv,ME]
 try simp only[AD,eY]
 repeat rfl
end Go.Proofs.YtkgadcbajihilaaGreatDoor
