import Derived.Test.YtkgadcbajihilaaGreatDoorEq6
set_option maxHeartbeats 4000000
set_option linter.unusedVariables false
set_option linter.unusedSimpArgs false
set_option linter.defProp false
set_option maxRecDepth 100000
namespace Go.Proofs.YtkgadcbajihilaaGreatDoor
open Go Go.Proofs Go.Proofs.YtkgadcbajihilaaGreatDoor.Am Tryz
variable(n:Nat)
def RO{B a}[A:QD Va B a]:CP T (n+5) 155 [.agg B]=(Bw a).map λr=>.s r:=by
 obtain⟨rfl⟩:=A;rw[QM];simp-dsimp+contextual(maxSteps:=1000000)only[↓QW,eZ,seval,func155,f155,Qtt,yj,Fm]
 try simp only[Bw,eY]
 repeat rfl
def M9(a3 a4){D a E i F a2}[A:QD Va D a][B:QC Q9 E i][C:QC Vn F a2]:LP T (n+5) 256 3 (Q7 [(1,.ptr 0 0 0),(3,.sl 1),(13,.imm 8 F),(14,.i .i64 a3),(15,.i .i64 a4)]) [some (.box D),some (.lst 1 E)]=Xt (run (Zo a i a2 a3) a4) (λzr=>(XE.ret,Q7 [(2,.b zr)],[])) (λzr=>(XE.exit 0,Q7 [],[])):=by
 rcases A,B,C with⟨⟨rfl⟩,⟨rfl⟩,⟨rfl⟩⟩
 rw[QY];simp-dsimp only[↓QW,Xw,QV,func256,f256,Qfz,oL,TP,TZ,seval];apply Q5 a4;intro a4;simp-dsimp+contextual(maxSteps:=1000000)only[↓QW,eZ,seval,IV,AT,E5]
 try simp only[Zo,eY]
 repeat rfl
def P2{B a}[A:QD Va B a]:CP T (n+10) 256 [.agg B]=(DH a).map λr=>.b r:=by
 obtain⟨rfl⟩:=A;rw[QM];simp-dsimp+contextual(maxSteps:=1000000)only[↓QW,eZ,seval,func256,f256,Qfz,oL,Nu,M9]
 try simp only[DH,eY]
 repeat rfl
def Tq{C c D c2}[A:QD QZ C c][B:QD Vv D c2]:CP T (n+1) 365 [.agg C,.iptr 5 [D] 0 0]=(GO c c2).map λr=>.b r:=by
 rcases A,B with⟨⟨rfl⟩,⟨rfl⟩⟩
 rw[QM];simp-dsimp+contextual only[↓QW,eZ,seval,func365,f365,Qrk,uo]
 try simp only[GO,eY]
 repeat rfl
def Di(a a2){C s D f}[A:QC QZ C s][B:QD Vv D f]:LP T (n+2) 242 2 (Q7 [(0,.imm 5 C),(1,.clo 365 [.iptr 5 [D] 0 0]),(7,.i .i64 a),(8,.i .i64 a2)]) []=Xt (run (Vt s f a) a2) (λzr=>(XE.ret,Q7 [(4,.i .i64 zr)],[])) (λzr=>(XE.exit 0,Q7 [],[])):=by
 rcases A,B with⟨⟨rfl⟩,⟨rfl⟩⟩
 rw[QY];simp-dsimp only[↓QW,Xw,QV,func242,f242,WS,PB,TP,TZ,seval];apply Q5 a2;intro a2;simp-dsimp+contextual only[↓QW,eZ,seval,Tq]
 try simp only[Vt,eY]
 repeat rfl
def Ev{C s D c}[A:QC QZ C s][B:QD Vv D c]:CP T (n+3) 242 [.imm 5 C,.clo 365 [.iptr 5 [D] 0 0]]=(Xl s c).map λr=>.i .i64 r:=by
 rcases A,B with⟨⟨rfl⟩,⟨rfl⟩⟩
 rw[QM];simp-dsimp+contextual only[↓QW,eZ,seval,func242,f242,WS,PB,Di]
 try simp only[Xl,eY]
 repeat rfl
def Dy{C s D c}[A:QC QZ C s][B:QD Vv D c]:CP T (n+4) 251 [.imm 5 C,.clo 365 [.iptr 5 [D] 0 0]]=(VK s c).map λr=>.b r:=by
 rcases A,B with⟨⟨rfl⟩,⟨rfl⟩⟩
 rw[QM];simp-dsimp+contextual only[↓QW,eZ,seval,func251,f251,Qa1,kf,Ev]
 try simp only[VK,eY]
 repeat rfl
def MF{C a D a2}[A:QD Va C a][B:QD Vv D a2]:CP T (n+5) 333 [.agg C,.agg D]=(EL a a2).map λr=>.b r:=by
 rcases A,B with⟨⟨rfl⟩,⟨rfl⟩⟩
 rw[QM];simp-dsimp+contextual(maxSteps:=1000000)only[↓QW,eZ,seval,func333,f333,Qoc,vW,Dy]
 try simp only[EL,eY]
 repeat rfl
def Pu(a3 a4){C a D a2}[A:QD Va C a][B:QC Vv D a2]:LP T (n+6) 257 2 (Q7 [(1,.ptr 0 0 0),(7,.imm 5 D),(8,.i .i64 a3),(9,.i .i64 a4)]) [some (.box C)]=Xt (run (AO a a2 a3) a4) (λzr=>(XE.ret,Q7 [(2,.b zr)],[])) (λzr=>(XE.exit 0,Q7 [],[])):=by
 rcases A,B with⟨⟨rfl⟩,⟨rfl⟩⟩
 rw[QY];simp-dsimp only[↓QW,Xw,QV,func257,f257,QfM,pi,TP,TZ,seval];apply Q5 a4;intro a4;simp-dsimp+contextual(maxSteps:=1000000)only[↓QW,eZ,seval,MF,JL]
 try simp only[AO,eY]
 repeat rfl
def Wl{B a}[A:QD Va B a]:CP T (n+7) 257 [.agg B]=(Fw a).map λr=>.b r:=by
 obtain⟨rfl⟩:=A;rw[QM];simp-dsimp+contextual(maxSteps:=1000000)only[↓QW,eZ,seval,func257,f257,QfM,pi,Pu]
 try simp only[Fw,eY]
 repeat rfl
def L7(a3 a4){C a D a2}[A:QD Va C a][B:QC Vv D a2]:LP T (n+6) 258 2 (Q7 [(1,.ptr 0 0 0),(7,.imm 5 D),(8,.i .i64 a3),(9,.i .i64 a4)]) [some (.box C)]=Xt (run (JN a a2 a3) a4) (λzr=>(XE.ret,Q7 [(2,.b zr)],[])) (λzr=>(XE.exit 0,Q7 [],[])):=by
 rcases A,B with⟨⟨rfl⟩,⟨rfl⟩⟩
 rw[QY];simp-dsimp only[↓QW,Xw,QV,func258,f258,QfF,q9,TP,TZ,seval];apply Q5 a4;intro a4;simp-dsimp+contextual(maxSteps:=1000000)only[↓QW,eZ,seval,MF,JL,Mi]
 try simp only[JN,eY]
 repeat rfl
def O8{B a}[A:QD Va B a]:CP T (n+7) 258 [.agg B]=(CT a).map λr=>.b r:=by
 obtain⟨rfl⟩:=A;rw[QM];simp-dsimp+contextual(maxSteps:=1000000)only[↓QW,eZ,seval,func258,f258,QfF,q9,L7]
 try simp only[CT,eY]
 repeat rfl
def Mr(s2 a2 a3){C s D a}[A:QC Ln C s][B:QC Ln D a]:LP T (n+1) 383 3 (Q7 [(0,.imm 1 C),(3,.i .i64 s2),(9,.imm 1 D),(10,.i .i64 a2),(11,.i .i64 a3)]) []=(run (Xp s a a2) (s2,a3)).map (λzr=>(XE.exit 0,Q7 [(0,.imm 1 (s.map Ln)),(3,.i .i64 zr)],[])):=by
 rcases A,B with⟨⟨rfl⟩,⟨rfl⟩⟩
 rw[QY];simp-dsimp only[↓QW,Xw,QV,func383,f383,we,kl,TP,TZ,seval];apply Q2 s2 a3;intro s2 a3;simp-dsimp+contextual only[↓QW,eZ,seval]
 try simp only[Xp,eY]
 repeat rfl
def LD(a3 a4){C a D a2}[A:QC Q9 C a][B:QC Ln D a2]:LP T (n+1) 383 11 (Q7 [(6,.sl 0),(25,.imm 1 D),(26,.i .i64 a3),(27,.i .i64 a4)]) [some (.lst 1 C)]=(run (XO a2 a3) (a,a4)).map (λzr=>(XE.exit 2,Q7 [(6,.sl 0)],[some (.lst 1 (zr.map Q9))])):=by
 rcases A,B with⟨⟨rfl⟩,⟨rfl⟩⟩
 rw[QY];simp-dsimp only[↓QW,Xw,QV,func383,f383,we,kl,TP,TZ,seval];apply Q2 a a4;intro a a4;simp-dsimp+contextual only[↓QW,eZ,seval]
 try simp only[XO,eY]
 repeat rfl
def OZ{B s}[A:QC Ln B s]:CP T (n+2) 383 [.imm 1 B]=(CS s).map λr=>.own 1 (r.map Q9):=by
 obtain⟨rfl⟩:=A;rw[QM];simp-dsimp+contextual only[↓QW,eZ,seval,func383,f383,we,kl,Si,Mr,LD]
 try simp only[CS,eY]
 all_goals first|rfl|(simp +contextual only[B8]<;>rfl)
def UJ{B a}[A:QC Q9 B a]:CP T (n+3) 366 [.imm 1 B,.nil]=(HY a).map λr=>.own 1 (r.map Q9):=by
 obtain⟨rfl⟩:=A;rw[QM];simp-dsimp+contextual only[↓QW,eZ,seval,func366,f366,QlC,xV,Ni,OZ]
 try simp only[HY,eY]
 all_goals first|rfl|(simp +contextual only[B8]<;>rfl)
def Nx(a2 a3){C o D a}[A:QC Q9 C o][B:QC Vx D a]:LP T (n+1) 334 3 (Q7 [(3,.sl 0),(7,.imm 4 D),(8,.i .i64 a2),(9,.i .i64 a3)]) [some (.lst 1 C)]=(run (JF a a2) (o,a3)).map (λzr=>(XE.exit 0,Q7 [(3,.sl 0)],[some (.lst 1 (zr.map Q9))])):=by
 rcases A,B with⟨⟨rfl⟩,⟨rfl⟩⟩
 rw[QY];simp-dsimp only[↓QW,Xw,QV,func334,f334,Qe0,rc,TP,TZ,seval];apply Q2 o a3;intro o a3;simp-dsimp+contextual only[↓QW,eZ,seval]
 try simp only[JF,eY]
 repeat rfl
def Sf{B l}[A:QC Vx B l]:CP T (n+4) 334 [.imm 4 B]=(Cz l).map λr=>.own 1 (r.map Q9):=by
 obtain⟨rfl⟩:=A;rw[QM];simp-dsimp+contextual only[↓QW,eZ,seval,func334,f334,Qe0,rc,UJ,Nx]
 try simp only[Cz,eY]
 all_goals first|rfl|(simp +contextual only[B8]<;>rfl)
def NM(s a3 a4){C a D a2}[A:QD Va C a][B:QC Q9 D a2]:LP T (n+6) 259 3 (Q7 [(1,.ptr 0 0 0),(3,.i .i64 s),(8,.sl 1),(9,.i .i64 a3),(10,.i .i64 a4)]) [some (.box C),some (.lst 1 D)]=(run (X6 a a2 a3) (s,a4)).map (λzr=>(XE.exit 0,Q7 [(1,.ptr 0 0 0),(3,.i .i64 zr)],[some (.box (Va a))])):=by
 rcases A,B with⟨⟨rfl⟩,⟨rfl⟩⟩
 rw[QY];simp-dsimp only[↓QW,Xw,QV,func259,f259,QfG,ql,TP,TZ,seval];apply Q2 s a4;intro s a4;simp-dsimp+contextual(maxSteps:=1000000)only[↓QW,eZ,seval,KC]
 try simp only[X6,eY]
 repeat rfl
def Sc{B a}[A:QD Va B a]:CP T (n+7) 259 [.agg B]=(Et a).map λr=>.b r:=by
 obtain⟨rfl⟩:=A;rw[QM];simp-dsimp+contextual(maxSteps:=1000000)only[↓QW,eZ,seval,func259,f259,QfG,ql,Sf,KC,NM]
 try simp only[Et,eY]
 repeat rfl
def bj{B a}[A:QD Va B a]:CP T (n+12) 156 [.agg B]=(FU a).map λr=>.s r:=by
 obtain⟨rfl⟩:=A;rw[QM];simp-dsimp+contextual(maxSteps:=1000000)only[↓QW,eZ,seval,func156,f156,QlM,xo,Ae,P2,Wl,O8,Sc]
 try simp only[FU,eY]
 repeat rfl
def kh(w){C a D a2}[A:QD Va C a][B:QC Q9 D a2]:CP T (n+13) 48 [.agg C,.s w,.imm 1 D]=(De a w a2).map λr=>.s r:=by
 rcases A,B with⟨⟨rfl⟩,⟨rfl⟩⟩
 rw[QM];simp-dsimp+contextual(maxSteps:=1000000)only[↓QW,eZ,Nat.reduceAdd,Nat.reduceMul,Nat.reduceBEq,Nat.reduceLeDiff,Nat.reduceLT,func48,f48,Qwk,Qi5,Y7,BC,Kl,Ka,Jc,bT,JL,Li,YJ,Ue,Fm,KC,PT,P5,Pv,RO,bj]
 try simp only[De,eY]
 try simp only[List.contains_nil,Qi,Bool.and_true,T7,List.length_append,List.length_cons,List.length_nil,Nat.zero_add,th,jG]
 repeat rfl
def M5(l a3 a4){D a E w F a2}[A:QD Va D a][B:QC Ij E w][C:QC Ij F a2]:LP T (n+1) 7 3 (Q7 [(1,.s l),(2,.ptr 0 0 0),(4,.ptr 1 0 0),(6,.sl 2),(18,.sl 3),(19,.i .i64 a3),(20,.i .i64 a4)]) [some (.box D),some (.box [.i .i64 0,.nil,.nil,.nil,.nil,.nil,.nil,.nil,.i .i64 0]),some (.lst 1 E),some (.lst 1 F)]=(run (Jh l a a2 a3) (w,a4)).map (λzr=>(XE.exit 0,Q7 [(1,.s l),(2,.ptr 0 0 0),(4,.ptr 1 0 0),(6,.sl 2)],[some (.box (Va a)),some (.box [.i .i64 0,.nil,.nil,.nil,.nil,.nil,.nil,.nil,.i .i64 0]),some (.lst 1 (zr.map Ij))])):=by
 rcases A,B,C with⟨⟨rfl⟩,⟨rfl⟩,⟨rfl⟩⟩
 rw[QY];simp-dsimp only[↓QW,Xw,QV,func7,f7,Aa7,An7,TP,TZ,seval];apply Q2 w a4;intro w a4;simp-dsimp+contextual(maxSteps:=1000000)only[↓QW,eZ,seval]
 try simp only[Jh,eY]
 try simp only[List.contains_nil,Qi,Bool.and_true,T7,List.length_append,List.length_cons,List.length_nil,Nat.zero_add,th,jG]
 repeat rfl
def Rb(l){B a}[A:QD Va B a]:CP T (n+15) 7 [.agg B,.s l]=(ZG a l).map λr=>.tup [.agg (Xi r.1),.s r.2]:=by
 obtain⟨rfl⟩:=A;rw[QM];simp-dsimp+contextual(maxSteps:=1000000)only[↓QW,eZ,Nat.reduceAdd,Nat.reduceMul,Nat.reduceBEq,Nat.reduceLeDiff,Nat.reduceLT,func7,f7,Aa7,An7,Qi,Qh,IR,ik,Xd,FB,Rz,TF,Fm,Wq,bu,kh,M5]
 try simp only[ZG,eY]
 try simp only[List.contains_nil,Qi,Bool.and_true,T7,List.length_append,List.length_cons,List.length_nil,Nat.zero_add,th,jG]
 repeat rfl
def bq{C a D b}[A:QD CW C a][B:QD CW D b]:CP T (n+1) 260 [.agg C,.agg D]=(HD a b).map λr=>.b r:=by
 rcases A,B with⟨⟨rfl⟩,⟨rfl⟩⟩
 rw[QM];simp-dsimp+contextual only[↓QW,eZ,seval,func260,f260,QpA,yH]
 try simp only[HD,eY]
 repeat rfl
def dK{C a D b}[A:QD Vn C a][B:QD Vn D b]:CP T (n+2) 157 [.agg C,.agg D]=(IE a b).map λr=>.b r:=by
 rcases A,B with⟨⟨rfl⟩,⟨rfl⟩⟩
 rw[QM];simp-dsimp+contextual only[↓QW,eZ,seval,func157,f157,Qpd,yz,bq]
 try simp only[IE,eY]
 repeat rfl
def T4(i){C a D b}[A:QC Vn C a][B:QC Vn D b]:LP T (n+3) 49 4 (Q7 [(0,.imm 8 C),(1,.imm 8 D),(5,.i .i64 i)]) []=Xt (run (B7 a b) i) (λzr=>(XE.ret,Q7 [(4,.b zr)],[])) (λzr=>(XE.exit 0,Q7 [],[])):=by
 rcases A,B with⟨⟨rfl⟩,⟨rfl⟩⟩
 rw[QY];simp-dsimp only[↓QW,Xw,QV,func49,f49,Qok,Qcr,TP,TZ,seval];apply Q5 i;intro i;simp-dsimp+contextual only[↓QW,eZ,seval,dK]
 try simp only[B7,eY]
 repeat rfl
def aa{C a D b}[A:QC Vn C a][B:QC Vn D b]:CP T (n+4) 49 [.imm 8 C,.imm 8 D]=(Hu a b).map λr=>.b r:=by
 rcases A,B with⟨⟨rfl⟩,⟨rfl⟩⟩
 rw[QM];simp-dsimp+contextual only[↓QW,eZ,seval,func49,f49,Qok,Qcr,T4]
 try simp only[Hu,eY]
 repeat rfl
def dX{C a D b}[A:QD Xb C a][B:QD Xb D b]:CP T (n+1) 335 [.agg C,.agg D]=(IQ a b).map λr=>.b r:=by
 rcases A,B with⟨⟨rfl⟩,⟨rfl⟩⟩
 rw[QM];simp-dsimp+contextual only[↓QW,eZ,seval,func335,f335,Qq5,xF]
 try simp only[IQ,eY]
 repeat rfl
def S2(i){C a D b}[A:QC Xb C a][B:QC Xb D b]:LP T (n+2) 261 4 (Q7 [(0,.imm 2 C),(1,.imm 2 D),(5,.i .i64 i)]) []=Xt (run (Cu a b) i) (λzr=>(XE.ret,Q7 [(4,.b zr)],[])) (λzr=>(XE.exit 0,Q7 [],[])):=by
 rcases A,B with⟨⟨rfl⟩,⟨rfl⟩⟩
 rw[QY];simp-dsimp only[↓QW,Xw,QV,func261,f261,Qfa,qZ,TP,TZ,seval];apply Q5 i;intro i;simp-dsimp+contextual only[↓QW,eZ,seval,dX]
 try simp only[Cu,eY]
 repeat rfl
def cr{C a D b}[A:QC Xb C a][B:QC Xb D b]:CP T (n+3) 261 [.imm 2 C,.imm 2 D]=(Hi a b).map λr=>.b r:=by
 rcases A,B with⟨⟨rfl⟩,⟨rfl⟩⟩
 rw[QM];simp-dsimp+contextual only[↓QW,eZ,seval,func261,f261,Qfa,qZ,S2]
 try simp only[Hi,eY]
 repeat rfl
def WY{C a D b}[A:QD VC C a][B:QD VC D b]:CP T (n+4) 158 [.agg C,.agg D]=(Gw a b).map λr=>.b r:=by
 rcases A,B with⟨⟨rfl⟩,⟨rfl⟩⟩
 rw[QM];simp-dsimp+contextual only[↓QW,eZ,seval,func158,f158,Qol,xG,cr]
 try simp only[Gw,eY]
 repeat rfl
def OU(i){C a D b}[A:QC VC C a][B:QC VC D b]:LP T (n+5) 50 4 (Q7 [(0,.imm 3 C),(1,.imm 3 D),(5,.i .i64 i)]) []=Xt (run (Aq a b) i) (λzr=>(XE.ret,Q7 [(4,.b zr)],[])) (λzr=>(XE.exit 0,Q7 [],[])):=by
 rcases A,B with⟨⟨rfl⟩,⟨rfl⟩⟩
 rw[QY];simp-dsimp only[↓QW,Xw,QV,func50,f50,Qo9,Qd7,TP,TZ,seval];apply Q5 i;intro i;simp-dsimp+contextual only[↓QW,eZ,seval,WY]
 try simp only[Aq,eY]
 repeat rfl
def Uy{C a D b}[A:QC VC C a][B:QC VC D b]:CP T (n+6) 50 [.imm 3 C,.imm 3 D]=(FE a b).map λr=>.b r:=by
 rcases A,B with⟨⟨rfl⟩,⟨rfl⟩⟩
 rw[QM];simp-dsimp+contextual only[↓QW,eZ,seval,func50,f50,Qo9,Qd7,OU]
 try simp only[FE,eY]
 repeat rfl
def et{C a D b}[A:QD VA C a][B:QD VA D b]:CP T (n+1) 159 [.agg C,.agg D]=(Iy a b).map λr=>.b r:=by
 rcases A,B with⟨⟨rfl⟩,⟨rfl⟩⟩
 rw[QM];simp-dsimp+contextual only[↓QW,eZ,seval,func159,f159,QqQ,ym]
 try simp only[Iy,eY]
 repeat rfl
def SF(i){C a D b}[A:QC VA C a][B:QC VA D b]:LP T (n+2) 51 4 (Q7 [(0,.imm 3 C),(1,.imm 3 D),(5,.i .i64 i)]) []=Xt (run (Cf a b) i) (λzr=>(XE.ret,Q7 [(4,.b zr)],[])) (λzr=>(XE.exit 0,Q7 [],[])):=by
 rcases A,B with⟨⟨rfl⟩,⟨rfl⟩⟩
 rw[QY];simp-dsimp only[↓QW,Xw,QV,func51,f51,QsZ,Qcc,TP,TZ,seval];apply Q5 i;intro i;simp-dsimp+contextual only[↓QW,eZ,seval,et]
 try simp only[Cf,eY]
 repeat rfl
def dz{C a D b}[A:QC VA C a][B:QC VA D b]:CP T (n+3) 51 [.imm 3 C,.imm 3 D]=(Hy a b).map λr=>.b r:=by
 rcases A,B with⟨⟨rfl⟩,⟨rfl⟩⟩
 rw[QM];simp-dsimp+contextual only[↓QW,eZ,seval,func51,f51,QsZ,Qcc,SF]
 try simp only[Hy,eY]
 repeat rfl
def aO{C a D b}[A:QD QZ C a][B:QD QZ D b]:CP T (n+1) 160 [.agg C,.agg D]=(HG a b).map λr=>.b r:=by
 rcases A,B with⟨⟨rfl⟩,⟨rfl⟩⟩
 rw[QM];simp-dsimp+contextual only[↓QW,eZ,seval,func160,f160,Qoz,yq]
 try simp only[HG,eY]
 repeat rfl
def Rj(i){C a D b}[A:QC QZ C a][B:QC QZ D b]:LP T (n+2) 52 4 (Q7 [(0,.imm 5 C),(1,.imm 5 D),(5,.i .i64 i)]) []=Xt (run (BO a b) i) (λzr=>(XE.ret,Q7 [(4,.b zr)],[])) (λzr=>(XE.exit 0,Q7 [],[])):=by
 rcases A,B with⟨⟨rfl⟩,⟨rfl⟩⟩
 rw[QY];simp-dsimp only[↓QW,Xw,QV,func52,f52,QsH,QbF,TP,TZ,seval];apply Q5 i;intro i;simp-dsimp+contextual only[↓QW,eZ,seval,aO]
 try simp only[BO,eY]
 repeat rfl
def YB{C a D b}[A:QC QZ C a][B:QC QZ D b]:CP T (n+3) 52 [.imm 5 C,.imm 5 D]=(Gz a b).map λr=>.b r:=by
 rcases A,B with⟨⟨rfl⟩,⟨rfl⟩⟩
 rw[QM];simp-dsimp+contextual only[↓QW,eZ,seval,func52,f52,QsH,QbF,Rj]
 try simp only[Gz,eY]
 repeat rfl
def cm{C a D b}[A:QD Vq C a][B:QD Vq D b]:CP T (n+1) 161 [.agg C,.agg D]=(HH a b).map λr=>.b r:=by
 rcases A,B with⟨⟨rfl⟩,⟨rfl⟩⟩
 rw[QM];simp-dsimp+contextual only[↓QW,eZ,seval,func161,f161,Ql5,Qa9]
 try simp only[HH,eY]
 repeat rfl
def Rt(i){C a D b}[A:QC Vq C a][B:QC Vq D b]:LP T (n+2) 53 4 (Q7 [(0,.imm 4 C),(1,.imm 4 D),(5,.i .i64 i)]) []=Xt (run (BI a b) i) (λzr=>(XE.ret,Q7 [(4,.b zr)],[])) (λzr=>(XE.exit 0,Q7 [],[])):=by
 rcases A,B with⟨⟨rfl⟩,⟨rfl⟩⟩
 rw[QY];simp-dsimp only[↓QW,Xw,QV,func53,f53,QrR,QdI,TP,TZ,seval];apply Q5 i;intro i;simp-dsimp+contextual only[↓QW,eZ,seval,cm]
 try simp only[BI,eY]
 repeat rfl
def Yv{C a D b}[A:QC Vq C a][B:QC Vq D b]:CP T (n+3) 53 [.imm 4 C,.imm 4 D]=(GJ a b).map λr=>.b r:=by
 rcases A,B with⟨⟨rfl⟩,⟨rfl⟩⟩
 rw[QM];simp-dsimp+contextual only[↓QW,eZ,seval,func53,f53,QrR,QdI,Rt]
 try simp only[GJ,eY]
 repeat rfl
def dF{C a D b}[A:QD Vv C a][B:QD Vv D b]:CP T (n+1) 162 [.agg C,.agg D]=(IN a b).map λr=>.b r:=by
 rcases A,B with⟨⟨rfl⟩,⟨rfl⟩⟩
 rw[QM];simp-dsimp+contextual only[↓QW,eZ,seval,func162,f162,Ql7,y5]
 try simp only[IN,eY]
 repeat rfl
def Tj(i){C a D b}[A:QC Vv C a][B:QC Vv D b]:LP T (n+2) 54 4 (Q7 [(0,.imm 5 C),(1,.imm 5 D),(5,.i .i64 i)]) []=Xt (run (Cp a b) i) (λzr=>(XE.ret,Q7 [(4,.b zr)],[])) (λzr=>(XE.exit 0,Q7 [],[])):=by
 rcases A,B with⟨⟨rfl⟩,⟨rfl⟩⟩
 rw[QY];simp-dsimp only[↓QW,Xw,QV,func54,f54,Qp4,QdE,TP,TZ,seval];apply Q5 i;intro i;simp-dsimp+contextual only[↓QW,eZ,seval,dF]
 try simp only[Cp,eY]
 repeat rfl
def bf{C a D b}[A:QC Vv C a][B:QC Vv D b]:CP T (n+3) 54 [.imm 5 C,.imm 5 D]=(HZ a b).map λr=>.b r:=by
 rcases A,B with⟨⟨rfl⟩,⟨rfl⟩⟩
 rw[QM];simp-dsimp+contextual only[↓QW,eZ,seval,func54,f54,Qp4,QdE,Tj]
 try simp only[HZ,eY]
 repeat rfl
def c9{C a D b}[A:QD Vx C a][B:QD Vx D b]:CP T (n+1) 163 [.agg C,.agg D]=(Hz a b).map λr=>.b r:=by
 rcases A,B with⟨⟨rfl⟩,⟨rfl⟩⟩
 rw[QM];simp-dsimp+contextual only[↓QW,eZ,seval,func163,f163,QtC,y8]
 try simp only[Hz,eY]
 repeat rfl
def PQ(i){C a D b}[A:QC Vx C a][B:QC Vx D b]:LP T (n+2) 55 4 (Q7 [(0,.imm 4 C),(1,.imm 4 D),(5,.i .i64 i)]) []=Xt (run (Bv a b) i) (λzr=>(XE.ret,Q7 [(4,.b zr)],[])) (λzr=>(XE.exit 0,Q7 [],[])):=by
 rcases A,B with⟨⟨rfl⟩,⟨rfl⟩⟩
 rw[QY];simp-dsimp only[↓QW,Xw,QV,func55,f55,Qml,QbI,TP,TZ,seval];apply Q5 i;intro i;simp-dsimp+contextual only[↓QW,eZ,seval,c9]
 try simp only[Bv,eY]
 repeat rfl
def YI{C a D b}[A:QC Vx C a][B:QC Vx D b]:CP T (n+3) 55 [.imm 4 C,.imm 4 D]=(GA a b).map λr=>.b r:=by
 rcases A,B with⟨⟨rfl⟩,⟨rfl⟩⟩
 rw[QM];simp-dsimp+contextual only[↓QW,eZ,seval,func55,f55,Qml,QbI,PQ]
 try simp only[GA,eY]
 repeat rfl
def bD{C a D b}[A:QD Va C a][B:QD Va D b]:CP T (n+7) 8 [.agg C,.agg D]=(CJ a b).map λr=>.b r:=by
 rcases A,B with⟨⟨rfl⟩,⟨rfl⟩⟩
 rw[QM];simp-dsimp+contextual(maxSteps:=1000000)only[↓QW,eZ,seval,func8,f8,Aa8,An8,aa,Uy,dz,YB,Yv,bf,YI]
 try simp only[CJ,eY]
 repeat rfl
def O2(k i){B a}[A:QC Vn B a]:LP T (n+1) 56 2 (Q7 [(0,.sl 0),(1,.i .i64 k),(5,.i .i64 i)]) [some (.lst 8 B)]=(run AL (a,k,i)).map (λzr=>(XE.exit 0,Q7 [(0,.sl 0),(1,.i .i64 zr.2)],[some (.lst 8 (zr.1.map Vn))])):=by
 obtain⟨rfl⟩:=A;rw[QY];simp-dsimp only[↓QW,Xw,QV,func56,f56,Ql8,QbP,TP,TZ,seval];apply Ba a k i;intro a k i;simp-dsimp+contextual only[↓QW,eZ,seval]
 try simp only[AL,eY]
 repeat rfl
def We(k){B a}[A:QC Vn B a]:CA T (n+2) 56 [some (.lst 8 B)] [.sl 0,.i .i64 k]=(Fg a k).map λr=>(.i .i64 r.2,[some (.lst 8 (r.1.map Vn))]):=by
 obtain⟨rfl⟩:=A;rw[MJ];simp-dsimp+contextual only[↓QW,eZ,seval,func56,f56,Ql8,QbP,O2]
 try simp only[Fg,eY]
 repeat rfl
def OR(k i){B a}[A:QC Xb B a]:LP T (n+1) 164 2 (Q7 [(0,.sl 0),(1,.i .i64 k),(5,.i .i64 i)]) [some (.lst 2 B)]=(run Av (a,k,i)).map (λzr=>(XE.exit 0,Q7 [(0,.sl 0),(1,.i .i64 zr.2)],[some (.lst 2 (zr.1.map Xb))])):=by
 obtain⟨rfl⟩:=A;rw[QY];simp-dsimp only[↓QW,Xw,QV,func164,f164,Qfi,qe,TP,TZ,seval];apply Ba a k i;intro a k i;simp-dsimp+contextual only[↓QW,eZ,seval]
 try simp only[Av,eY]
 repeat rfl
def US(k){B a}[A:QC Xb B a]:CA T (n+2) 164 [some (.lst 2 B)] [.sl 0,.i .i64 k]=(FC a k).map λr=>(.i .i64 r.2,[some (.lst 2 (r.1.map Xb))]):=by
 obtain⟨rfl⟩:=A;rw[MJ];simp-dsimp+contextual only[↓QW,eZ,seval,func164,f164,Qfi,qe,OR]
 try simp only[FC,eY]
 repeat rfl
def M8(k i){B a}[A:QC VF B a]:LP T (n+3) 57 2 (Q7 [(0,.sl 0),(1,.i .i64 k),(5,.i .i64 i)]) [some (.lst 3 B)]=(run Zn (a,k,i)).map (λzr=>(XE.exit 0,Q7 [(0,.sl 0),(1,.i .i64 zr.2)],[some (.lst 3 (zr.1.map VF))])):=by
 obtain⟨rfl⟩:=A;rw[QY];simp-dsimp only[↓QW,Xw,QV,func57,f57,QnO,Qd9,TP,TZ,seval];apply Ba a k i;intro a k i;simp-dsimp+contextual only[↓QW,eZ,seval,Ni,US]
 try simp only[Zn,eY]
 repeat rfl
def Rc(k){B a}[A:QC VF B a]:CA T (n+4) 57 [some (.lst 3 B)] [.sl 0,.i .i64 k]=(DG a k).map λr=>(.i .i64 r.2,[some (.lst 3 (r.1.map VF))]):=by
 obtain⟨rfl⟩:=A;rw[MJ];simp-dsimp+contextual only[↓QW,eZ,seval,func57,f57,QnO,Qd9,Ni,M8]
 try simp only[DG,eY]
 repeat rfl
def Py(k i){B a}[A:QC VA B a]:LP T (n+1) 58 2 (Q7 [(0,.sl 0),(1,.i .i64 k),(5,.i .i64 i)]) [some (.lst 3 B)]=(run Ap (a,k,i)).map (λzr=>(XE.exit 0,Q7 [(0,.sl 0),(1,.i .i64 zr.2)],[some (.lst 3 (zr.1.map VA))])):=by
 obtain⟨rfl⟩:=A;rw[QY];simp-dsimp only[↓QW,Xw,QV,func58,f58,QoM,QeC,TP,TZ,seval];apply Ba a k i;intro a k i;simp-dsimp+contextual only[↓QW,eZ,seval]
 try simp only[Ap,eY]
 repeat rfl
def Wa(k){B a}[A:QC VA B a]:CA T (n+2) 58 [some (.lst 3 B)] [.sl 0,.i .i64 k]=(FK a k).map λr=>(.i .i64 r.2,[some (.lst 3 (r.1.map VA))]):=by
 obtain⟨rfl⟩:=A;rw[MJ];simp-dsimp+contextual only[↓QW,eZ,seval,func58,f58,QoM,QeC,Py]
 try simp only[FK,eY]
 repeat rfl
def NY(k i){B a}[A:QC QZ B a]:LP T (n+1) 59 2 (Q7 [(0,.sl 0),(1,.i .i64 k),(5,.i .i64 i)]) [some (.lst 5 B)]=(run ZS (a,k,i)).map (λzr=>(XE.exit 0,Q7 [(0,.sl 0),(1,.i .i64 zr.2)],[some (.lst 5 (zr.1.map QZ))])):=by
 obtain⟨rfl⟩:=A;rw[QY];simp-dsimp only[↓QW,Xw,QV,func59,f59,QmH,Qey,TP,TZ,seval];apply Ba a k i;intro a k i;simp-dsimp+contextual only[↓QW,eZ,seval]
 try simp only[ZS,eY]
 repeat rfl
def Tx(k){B a}[A:QC QZ B a]:CA T (n+2) 59 [some (.lst 5 B)] [.sl 0,.i .i64 k]=(Ee a k).map λr=>(.i .i64 r.2,[some (.lst 5 (r.1.map QZ))]):=by
 obtain⟨rfl⟩:=A;rw[MJ];simp-dsimp+contextual only[↓QW,eZ,seval,func59,f59,QmH,Qey,NY]
 try simp only[Ee,eY]
 repeat rfl
def N4(k i){B a}[A:QC Vq B a]:LP T (n+1) 60 2 (Q7 [(0,.sl 0),(1,.i .i64 k),(5,.i .i64 i)]) [some (.lst 4 B)]=(run ZU (a,k,i)).map (λzr=>(XE.exit 0,Q7 [(0,.sl 0),(1,.i .i64 zr.2)],[some (.lst 4 (zr.1.map Vq))])):=by
 obtain⟨rfl⟩:=A;rw[QY];simp-dsimp only[↓QW,Xw,QV,func60,f60,Qnz,Qbu,TP,TZ,seval];apply Ba a k i;intro a k i;simp-dsimp+contextual only[↓QW,eZ,seval]
 try simp only[ZU,eY]
 repeat rfl
def So(k){B a}[A:QC Vq B a]:CA T (n+2) 60 [some (.lst 4 B)] [.sl 0,.i .i64 k]=(Eb a k).map λr=>(.i .i64 r.2,[some (.lst 4 (r.1.map Vq))]):=by
 obtain⟨rfl⟩:=A;rw[MJ];simp-dsimp+contextual only[↓QW,eZ,seval,func60,f60,Qnz,Qbu,N4]
 try simp only[Eb,eY]
 repeat rfl
def O9(k i){B a}[A:QC Vv B a]:LP T (n+1) 61 2 (Q7 [(0,.sl 0),(1,.i .i64 k),(5,.i .i64 i)]) [some (.lst 5 B)]=(run AM (a,k,i)).map (λzr=>(XE.exit 0,Q7 [(0,.sl 0),(1,.i .i64 zr.2)],[some (.lst 5 (zr.1.map Vv))])):=by
 obtain⟨rfl⟩:=A;rw[QY];simp-dsimp only[↓QW,Xw,QV,func61,f61,Qp3,QbU,TP,TZ,seval];apply Ba a k i;intro a k i;simp-dsimp+contextual only[↓QW,eZ,seval]
 try simp only[AM,eY]
 repeat rfl
def Wn(k){B a}[A:QC Vv B a]:CA T (n+2) 61 [some (.lst 5 B)] [.sl 0,.i .i64 k]=(Fu a k).map λr=>(.i .i64 r.2,[some (.lst 5 (r.1.map Vv))]):=by
 obtain⟨rfl⟩:=A;rw[MJ];simp-dsimp+contextual only[↓QW,eZ,seval,func61,f61,Qp3,QbU,O9]
 try simp only[Fu,eY]
 repeat rfl
def Nr(k i){B a}[A:QC Vx B a]:LP T (n+1) 62 2 (Q7 [(0,.sl 0),(1,.i .i64 k),(5,.i .i64 i)]) [some (.lst 4 B)]=(run ZI (a,k,i)).map (λzr=>(XE.exit 0,Q7 [(0,.sl 0),(1,.i .i64 zr.2)],[some (.lst 4 (zr.1.map Vx))])):=by
 obtain⟨rfl⟩:=A;rw[QY];simp-dsimp only[↓QW,Xw,QV,func62,f62,Qph,Qbw,TP,TZ,seval];apply Ba a k i;intro a k i;simp-dsimp+contextual only[↓QW,eZ,seval]
 try simp only[ZI,eY]
 repeat rfl
def Sv(k){B a}[A:QC Vx B a]:CA T (n+2) 62 [some (.lst 4 B)] [.sl 0,.i .i64 k]=(Ek a k).map λr=>(.i .i64 r.2,[some (.lst 4 (r.1.map Vx))]):=by
 obtain⟨rfl⟩:=A;rw[MJ];simp-dsimp+contextual only[↓QW,eZ,seval,func62,f62,Qph,Qbw,Nr]
 try simp only[Ek,eY]
 repeat rfl
def Wo(axNo axNow k){H axFinds I axSecrets J axSlots K axClaims L axTrials M axChain N axBook}[A:QC Vn H axFinds][B:QC VF I axSecrets][C:QC VA J axSlots][D:QC QZ K axClaims][E:QC Vq L axTrials][F:QC Vv M axChain][G:QC Vx N axBook]:CA T (n+5) 9 [some (.lst 8 H),some (.lst 3 I),some (.lst 3 J),some (.lst 5 K),some (.lst 4 L),some (.lst 5 M),some (.lst 4 N)] [.agg [.i .i64 axNo,.sl 0,.sl 1,.sl 2,.sl 3,.sl 4,.sl 5,.sl 6,.i .i64 axNow],.i .i64 k]=(J5 (⟨axNo,axFinds,axSecrets,axSlots,axClaims,axTrials,axChain,axBook,axNow⟩:Ql) k).map λr=>(.i .i64 r.2,[some (.lst 8 (r.1.Qt.map Vn)),some (.lst 3 (r.1.Qn.map VF)),some (.lst 3 (r.1.Qs.map VA)),some (.lst 5 (r.1.Qv.map QZ)),some (.lst 4 (r.1.Qq.map Vq)),some (.lst 5 (r.1.Qw.map Vv)),some (.lst 4 (r.1.Book.map Vx))]):=by
 rcases A,B,C,D,E,F,G with⟨⟨rfl⟩,⟨rfl⟩,⟨rfl⟩,⟨rfl⟩,⟨rfl⟩,⟨rfl⟩,⟨rfl⟩⟩
 rw[MJ];simp-dsimp+contextual(maxSteps:=1000000)only[↓QW,eZ,seval,func9,f9,Aa9,An9,Ni,We,Rc,Wa,Tx,So,Wn,Sv]
 try simp only[J5,eY]
 repeat rfl
def O5(k i){B a}[A:QC Vn B a]:LP T (n+1) 63 2 (Q7 [(0,.imm 8 B),(1,.i .i64 k),(5,.i .i64 i)]) []=Xt (run (Ak a) (k,i)) (λzr=>(XE.ret,Q7 [(4,.i .i64 zr)],[])) (λzr=>(XE.exit 0,Q7 [(1,.i .i64 zr)],[])):=by
 obtain⟨rfl⟩:=A;rw[QY];simp-dsimp only[↓QW,Xw,QV,func63,f63,Qrw,Qdg,TP,TZ,seval];apply Q2 k i;intro k i;simp-dsimp+contextual only[↓QW,eZ,seval]
 try simp only[Ak,eY]
 repeat rfl
def Ut(k){B a}[A:QC Vn B a]:CP T (n+2) 63 [.imm 8 B,.i .i64 k]=(FG a k).map λr=>.i .i64 r:=by
 obtain⟨rfl⟩:=A;rw[QM];simp-dsimp+contextual only[↓QW,eZ,seval,func63,f63,Qrw,Qdg,O5]
 try simp only[FG,eY]
 repeat rfl
def Px(k i){B a}[A:QC Xb B a]:LP T (n+1) 165 2 (Q7 [(0,.imm 2 B),(1,.i .i64 k),(5,.i .i64 i)]) []=Xt (run (Aw a) (k,i)) (λzr=>(XE.ret,Q7 [(4,.i .i64 zr)],[])) (λzr=>(XE.exit 0,Q7 [(1,.i .i64 zr)],[])):=by
 obtain⟨rfl⟩:=A;rw[QY];simp-dsimp only[↓QW,Xw,QV,func165,f165,Qfr,pp,TP,TZ,seval];apply Q2 k i;intro k i;simp-dsimp+contextual only[↓QW,eZ,seval]
 try simp only[Aw,eY]
 repeat rfl
end Go.Proofs.YtkgadcbajihilaaGreatDoor
