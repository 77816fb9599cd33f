import Derived.Test.YtkgadcbajihilaaGreatDoorEq4
set_option maxHeartbeats 4000000
set_option linter.unusedVariables false
set_option linter.unusedSimpArgs false
set_option linter.defProp false
set_option maxRecDepth 100000
namespace Go.Proofs.YtkgadcbajihilaaGreatDoor
open Go Go.Proofs Go.Proofs.YtkgadcbajihilaaGreatDoor.Am Tryz
variable(n:Nat)
def kb(a v):CP T (n+3) 361 [.i .i64 a,.i .i64 v]=(OE a v).map λr=>.i .i64 r:=by
 rw[QM];simp-dsimp+contextual only[↓QW,eZ,seval,func361,f361,QqA,xU,lS]
 try simp only[OE,eY]
 repeat rfl
def dp(a a3 a4){B a2}[A:QC Q9 B a2]:LP T (n+4) 326 3 (Q7 [(3,.i .i64 a),(6,.imm 1 B),(7,.i .i64 a3),(8,.i .i64 a4)]) []=(run (HB a2 a3) (a,a4)).map (λzr=>(XE.exit 0,Q7 [(3,.i .i64 zr)],[])):=by
 obtain⟨rfl⟩:=A;rw[QY];simp-dsimp only[↓QW,Xw,QV,func326,f326,QgF,qW,TP,TZ,seval];apply Q2 a a4;intro a a4;simp-dsimp+contextual only[↓QW,eZ,seval,kb]
 try simp only[HB,eY]
 repeat rfl
def WE{B v}[A:QC Q9 B v]:CP T (n+5) 326 [.imm 1 B]=(Il v).map λr=>.i .i64 r:=by
 obtain⟨rfl⟩:=A;rw[QM];simp-dsimp+contextual only[↓QW,eZ,seval,func326,f326,QgF,qW,dp]
 try simp only[Il,eY]
 repeat rfl
def MP(b){B a}[A:QD Vv B a]:CP T (n+6) 308 [.i .i64 b,.agg B]=(ZY b a).map λr=>.i .i64 r:=by
 obtain⟨rfl⟩:=A;rw[QM];simp-dsimp+contextual only[↓QW,eZ,seval,func308,f308,QpZ,wh,WE]
 try simp only[ZY,eY]
 repeat rfl
def Ru(a i){B l}[A:QC Vv B l]:LP T (n+1) 331 2 (Q7 [(0,.imm 5 B),(1,.i .i64 a),(5,.i .i64 i)]) []=Xt (run (DD l a) i) (λzr=>(XE.ret,Q7 [(4,.i .i64 zr)],[])) (λzr=>(XE.exit 0,Q7 [],[])):=by
 obtain⟨rfl⟩:=A;rw[QY];simp-dsimp only[↓QW,Xw,QV,func331,f331,Qgi,pP,TP,TZ,seval];apply Q5 i;intro i;simp-dsimp+contextual only[↓QW,eZ,seval]
 try simp only[DD,eY]
 repeat rfl
def IV(a){B l}[A:QC Vv B l]:CP T (n+2) 331 [.imm 5 B,.i .i64 a]=(Bk l a).map λr=>.i .i64 r:=by
 obtain⟨rfl⟩:=A;rw[QM];simp-dsimp+contextual only[↓QW,eZ,seval,func331,f331,Qgi,pP,Ru]
 try simp only[Bk,eY]
 repeat rfl
def Sq(b a2 a3){C l D a}[A:QC Vv C l][B:QC Vv D a]:LP T (n+7) 301 5 (Q7 [(0,.imm 5 C),(3,.i .i64 b),(10,.imm 5 D),(11,.i .i64 a2),(12,.i .i64 a3)]) []=Xt (run (AU l a a2) (b,a3)) (λzr=>(XE.ret,Q7 [(2,.b zr)],[])) (λzr=>(XE.exit 0,Q7 [],[])):=by
 rcases A,B with⟨⟨rfl⟩,⟨rfl⟩⟩
 rw[QY];simp-dsimp only[↓QW,Xw,QV,func301,f301,Qgu,qb,TP,TZ,seval];apply Q2 b a3;intro b a3;simp-dsimp+contextual only[↓QW,eZ,seval,Vo,MP,IV]
 try simp only[AU,eY]
 repeat rfl
def Kq{B l}[A:QC Vv B l]:CP T (n+8) 301 [.imm 5 B]=(XQ l).map λr=>.b r:=by
 obtain⟨rfl⟩:=A;rw[QM];simp-dsimp+contextual only[↓QW,eZ,seval,func301,f301,Qgu,qb,Sq]
 try simp only[XQ,eY]
 repeat rfl
def N3(a2 a3){C l D a}[A:QC Vx C l][B:QC Vx D a]:LP T (n+2) 253 4 (Q7 [(0,.imm 4 C),(8,.imm 4 D),(9,.i .i64 a2),(10,.i .i64 a3)]) []=Xt (run (ZE l a a2) a3) (λzr=>(XE.ret,Q7 [(2,.b zr)],[])) (λzr=>(XE.exit 0,Q7 [],[])):=by
 rcases A,B with⟨⟨rfl⟩,⟨rfl⟩⟩
 rw[QY];simp-dsimp only[↓QW,Xw,QV,func253,f253,Qe6,qL,TP,TZ,seval];apply Q5 a3;intro a3;simp-dsimp+contextual only[↓QW,eZ,seval,Vo]
 try simp only[ZE,eY]
 repeat rfl
def E8{B l}[A:QC Vx B l]:CP T (n+3) 253 [.imm 4 B]=(Jy l).map λr=>.b r:=by
 obtain⟨rfl⟩:=A;rw[QM];simp-dsimp+contextual only[↓QW,eZ,seval,func253,f253,Qe6,qL,N3]
 try simp only[Jy,eY]
 repeat rfl
def Sw(a a3 a4){D l E o F a2}[A:QC Vv D l][B:QC Q9 E o][C:QC Vv F a2]:LP T (n+3) 330 5 (Q7 [(0,.imm 5 D),(1,.i .i64 a),(5,.sl 0),(13,.imm 5 F),(14,.i .i64 a3),(15,.i .i64 a4)]) [some (.lst 1 E)]=(run (Ce l a a2 a3) (o,a4)).map (λzr=>(XE.exit 0,Q7 [(5,.sl 0)],[some (.lst 1 (zr.map Q9))])):=by
 rcases A,B,C with⟨⟨rfl⟩,⟨rfl⟩,⟨rfl⟩⟩
 rw[QY];simp-dsimp only[↓QW,Xw,QV,func330,f330,QgJ,pd,TP,TZ,seval];apply Q2 o a4;intro o a4;simp-dsimp+contextual only[↓QW,eZ,seval,Ni,IV]
 try simp only[Ce,eY]
 repeat rfl
def Nu(a){B l}[A:QC Vv B l]:CP T (n+9) 330 [.imm 5 B,.i .i64 a]=(D8 l a).map λr=>.own 1 (r.map Q9):=by
 obtain⟨rfl⟩:=A;rw[QM];simp-dsimp+contextual only[↓QW,eZ,seval,func330,f330,QgJ,pd,Ni,Kq,Sw]
 try simp only[D8,eY]
 all_goals first|rfl|(simp +contextual only[B8]<;>rfl)
def P1(c){B f}[A:QD Vn B f]:CP T (n+1) 249 [.agg B,.iptr 1 [[.i .i64 c]] 0 0]=(F9 f c).map λr=>.b r:=by
 obtain⟨rfl⟩:=A;rw[QM];simp-dsimp+contextual only[↓QW,eZ,seval,func249,f249,Qoa,wR]
 try simp only[F9,eY]
 repeat rfl
def Dt(f a a2){B s}[A:QC Vn B s]:LP T (n+2) 248 2 (Q7 [(0,.imm 8 B),(1,.clo 249 [.iptr 1 [[.i .i64 f]] 0 0]),(7,.i .i64 a),(8,.i .i64 a2)]) []=Xt (run (Vs s f a) a2) (λzr=>(XE.ret,Q7 [(4,.i .i64 zr)],[])) (λzr=>(XE.exit 0,Q7 [],[])):=by
 obtain⟨rfl⟩:=A;rw[QY];simp-dsimp only[↓QW,Xw,QV,func248,f248,Qgr,qf,TP,TZ,seval];apply Q5 a2;intro a2;simp-dsimp+contextual only[↓QW,eZ,seval,P1]
 try simp only[Vs,eY]
 repeat rfl
def Ey(c){B s}[A:QC Vn B s]:CP T (n+3) 248 [.imm 8 B,.clo 249 [.iptr 1 [[.i .i64 c]] 0 0]]=(Xj s c).map λr=>.i .i64 r:=by
 obtain⟨rfl⟩:=A;rw[QM];simp-dsimp+contextual only[↓QW,eZ,seval,func248,f248,Qgr,qf,Dt]
 try simp only[Xj,eY]
 repeat rfl
def JL(i){B l}[A:QC Vn B l]:CP T (n+4) 147 [.imm 8 B,.i .i64 i]=(XB l i).map λr=>.i .i64 r:=by
 obtain⟨rfl⟩:=A;rw[QM];simp-dsimp+contextual only[↓QW,eZ,seval,func147,f147,Qp5,yk,Ey]
 try simp only[XB,eY]
 repeat rfl
def TO(a3 a4){D a E i F a2}[A:QD Va D a][B:QC Q9 E i][C:QC Vn F a2]:LP T (n+5) 302 5 (Q7 [(1,.ptr 0 0 0),(3,.sl 1),(23,.imm 8 F),(24,.i .i64 a3),(25,.i .i64 a4)]) [some (.box D),some (.lst 1 E)]=Xt (run (Zv a i a2 a3) a4) (λzr=>(XE.ret,Q7 [(2,.b zr)],[])) (λzr=>(XE.exit 0,Q7 [(1,.ptr 0 0 0),(3,.sl 1)],[some (.box (Va a)),some (.lst 1 (i.map Q9))])):=by
 rcases A,B,C with⟨⟨rfl⟩,⟨rfl⟩,⟨rfl⟩⟩
 rw[QY];simp-dsimp only[↓QW,Xw,QV,func302,f302,pH,fH,TP,TZ,seval];apply Q5 a4;intro a4;simp-dsimp+contextual(maxSteps:=1000000)only[↓QW,eZ,seval,AT,E5]
 try simp only[Zv,eY]
 repeat rfl
def RC(a3 a4){D a E i F a2}[A:QD Va D a][B:QC Q9 E i][C:QC VA F a2]:LP T (n+5) 302 11 (Q7 [(1,.ptr 0 0 0),(3,.sl 1),(57,.imm 3 F),(58,.i .i64 a3),(59,.i .i64 a4)]) [some (.box D),some (.lst 1 E)]=Xt (run (Jb a i a2 a3) a4) (λzr=>(XE.ret,Q7 [(2,.b zr)],[])) (λzr=>(XE.exit 2,Q7 [(1,.ptr 0 0 0),(3,.sl 1)],[some (.box (Va a)),some (.lst 1 (i.map Q9))])):=by
 rcases A,B,C with⟨⟨rfl⟩,⟨rfl⟩,⟨rfl⟩⟩
 rw[QY];simp-dsimp only[↓QW,Xw,QV,func302,f302,pH,fH,TP,TZ,seval];apply Q5 a4;intro a4;simp-dsimp+contextual(maxSteps:=1000000)only[↓QW,eZ,seval,JL]
 try simp only[Jb,eY]
 repeat rfl
def Re(a3 a4){C a D a2}[A:QD Va C a][B:QC Q9 D a2]:LP T (n+5) 302 17 (Q7 [(1,.ptr 0 0 0),(75,.sl 1),(76,.i .i64 a3),(77,.i .i64 a4)]) [some (.box C),some (.lst 1 D)]=Xt (run (BA a a2 a3) a4) (λzr=>(XE.ret,Q7 [(2,.b zr)],[])) (λzr=>(XE.exit 4,Q7 [],[])):=by
 rcases A,B with⟨⟨rfl⟩,⟨rfl⟩⟩
 rw[QY];simp-dsimp only[↓QW,Xw,QV,func302,f302,pH,fH,TP,TZ,seval];apply Q5 a4;intro a4;simp-dsimp+contextual(maxSteps:=1000000)only[↓QW,eZ,seval,JL]
 try simp only[BA,eY]
 repeat rfl
def ay{B a}[A:QD Va B a]:CP T (n+10) 302 [.agg B]=(Bf a).map λr=>.b r:=by
 obtain⟨rfl⟩:=A;rw[QM];simp-dsimp+contextual(maxSteps:=1000000)only[↓QW,eZ,seval,func302,f302,pH,fH,Nu,TO,RC,Re]
 try simp only[Bf,eY]
 repeat rfl
def NP{B a}[A:QD Vq B a]:CP T (n+2) 317 [.agg B]=(Gd a).map λr=>.b r:=by
 obtain⟨rfl⟩:=A;rw[QM];simp-dsimp+contextual only[↓QW,eZ,seval,func317,f317,Qs3,Qa2,Vo]
 try simp only[Gd,eY]
 repeat rfl
def T3(c){B a}[A:QD VC B a]:CP T (n+1) 328 [.agg B,.iptr 1 [[.i .i64 c]] 0 0]=(Ed a c).map λr=>.b r:=by
 obtain⟨rfl⟩:=A;rw[QM];simp-dsimp+contextual only[↓QW,eZ,seval,func328,f328,Qsq,QaQ]
 try simp only[Ed,eY]
 repeat rfl
def C4(f a a2){B s}[A:QC VC B s]:LP T (n+2) 327 2 (Q7 [(0,.imm 3 B),(1,.clo 328 [.iptr 1 [[.i .i64 f]] 0 0]),(7,.i .i64 a),(8,.i .i64 a2)]) []=Xt (run (Vb s f a) a2) (λzr=>(XE.ret,Q7 [(4,.i .i64 zr)],[])) (λzr=>(XE.exit 0,Q7 [],[])):=by
 obtain⟨rfl⟩:=A;rw[QY];simp-dsimp only[↓QW,Xw,QV,func327,f327,QfO,qd,TP,TZ,seval];apply Q5 a2;intro a2;simp-dsimp+contextual only[↓QW,eZ,seval,T3]
 try simp only[Vb,eY]
 repeat rfl
def D2(c){B s}[A:QC VC B s]:CP T (n+3) 327 [.imm 3 B,.clo 328 [.iptr 1 [[.i .i64 c]] 0 0]]=(VP s c).map λr=>.i .i64 r:=by
 obtain⟨rfl⟩:=A;rw[QM];simp-dsimp+contextual only[↓QW,eZ,seval,func327,f327,QfO,qd,C4]
 try simp only[VP,eY]
 repeat rfl
def MS(a){B l}[A:QC VC B l]:CP T (n+4) 245 [.imm 3 B,.i .i64 a]=(Bj l a).map λr=>.i .i64 r:=by
 obtain⟨rfl⟩:=A;rw[QM];simp-dsimp+contextual only[↓QW,eZ,seval,func245,f245,QmR,vX,D2]
 try simp only[Bj,eY]
 repeat rfl
def Kl(a){B l}[A:QC VC B l]:CP T (n+5) 145 [.imm 3 B,.i .i64 a]=(CD l a).map λr=>.own 2 (r.map Xb):=by
 obtain⟨rfl⟩:=A;rw[QM];simp-dsimp+contextual only[↓QW,eZ,seval,func145,f145,Qru,QaP,MS,Gl]
 try simp only[CD,eY]
 all_goals first|rfl|(simp +contextual only[B8]<;>rfl)
def bx{B l}[A:QC Xb B l]:CP T (n+1) 319 [.imm 2 B]=(F7 l).map λr=>.i .i64 r:=by
 obtain⟨rfl⟩:=A;rw[QM];simp-dsimp+contextual only[↓QW,eZ,seval,func319,f319,Qmu,xJ]
 try simp only[F7,eY]
 repeat rfl
def HA{C l D a}[A:QC Xb C l][B:QD Vq D a]:CP T (n+4) 231 [.imm 2 C,.agg D]=(AR l a).map λr=>.i .i64 r:=by
 rcases A,B with⟨⟨rfl⟩,⟨rfl⟩⟩
 rw[QM];simp-dsimp+contextual only[↓QW,eZ,seval,func231,f231,QnC,wi,NP,IU,bx]
 try simp only[AR,eY]
 repeat rfl
def ey(s):CP T (n+1) 345 [.i .i64 s]=(Hg s).map λr=>.i .i64 r:=by
 rw[QM];simp-dsimp+contextual only[↓QW,eZ,seval,func345,f345,QmJ,uJ]
 try simp only[Hg,eY]
 repeat rfl
def Pc(a3 a4){C a D a2}[A:QD Va C a][B:QC QZ D a2]:LP T (n+6) 303 4 (Q7 [(1,.ptr 0 0 0),(14,.imm 5 D),(15,.i .i64 a3),(16,.i .i64 a4)]) [some (.box C)]=Xt (run (V0 a a2 a3) a4) (λzr=>(XE.ret,Q7 [(2,.b zr)],[])) (λzr=>(XE.exit 0,Q7 [],[])):=by
 rcases A,B with⟨⟨rfl⟩,⟨rfl⟩⟩
 rw[QY];simp-dsimp only[↓QW,Xw,QV,func303,f303,Qfd,qV,TP,TZ,seval];apply Q5 a4;intro a4;simp-dsimp+contextual(maxSteps:=1000000)only[↓QW,eZ,seval,JL,NP,Kl,HA,ey]
 try simp only[V0,eY]
 repeat rfl
def Wr{B a}[A:QD Va B a]:CP T (n+7) 303 [.agg B]=(XZ a).map λr=>.b r:=by
 obtain⟨rfl⟩:=A;rw[QM];simp-dsimp+contextual(maxSteps:=1000000)only[↓QW,eZ,seval,func303,f303,Qfd,qV,Pc]
 try simp only[XZ,eY]
 repeat rfl
def Wi(a2 a4 a5){C a D a3}[A:QD Va C a][B:QC Vn D a3]:LP T (n+1) 304 3 (Q7 [(1,.ptr 0 0 0),(3,.i .i64 a2),(13,.imm 8 D),(14,.i .i64 a4),(15,.i .i64 a5)]) [some (.box C)]=(run (Dc a a3 a4) (a2,a5)).map (λzr=>(XE.exit 0,Q7 [(1,.ptr 0 0 0),(3,.i .i64 zr)],[some (.box (Va a))])):=by
 rcases A,B with⟨⟨rfl⟩,⟨rfl⟩⟩
 rw[QY];simp-dsimp only[↓QW,Xw,QV,func304,f304,jZ,cV,TP,TZ,seval];apply Q2 a2 a5;intro a2 a5;simp-dsimp+contextual(maxSteps:=1000000)only[↓QW,eZ,seval]
 try simp only[Dc,eY]
 repeat rfl
def Ul(a2 a4 a5){C a D a3}[A:QD Va C a][B:QC QZ D a3]:LP T (n+1) 304 8 (Q7 [(1,.ptr 0 0 0),(3,.i .i64 a2),(25,.imm 5 D),(26,.i .i64 a4),(27,.i .i64 a5)]) [some (.box C)]=(run (DF a a3 a4) (a2,a5)).map (λzr=>(XE.exit 2,Q7 [(1,.ptr 0 0 0),(3,.i .i64 zr)],[some (.box (Va a))])):=by
 rcases A,B with⟨⟨rfl⟩,⟨rfl⟩⟩
 rw[QY];simp-dsimp only[↓QW,Xw,QV,func304,f304,jZ,cV,TP,TZ,seval];apply Q2 a2 a5;intro a2 a5;simp-dsimp+contextual(maxSteps:=1000000)only[↓QW,eZ,seval]
 try simp only[DF,eY]
 repeat rfl
def Ti(a2 a4 a5){C a D a3}[A:QD Va C a][B:QC Vv D a3]:LP T (n+1) 304 13 (Q7 [(1,.ptr 0 0 0),(3,.i .i64 a2),(37,.imm 5 D),(38,.i .i64 a4),(39,.i .i64 a5)]) [some (.box C)]=(run (Cm a a3 a4) (a2,a5)).map (λzr=>(XE.exit 4,Q7 [(1,.ptr 0 0 0),(3,.i .i64 zr)],[some (.box (Va a))])):=by
 rcases A,B with⟨⟨rfl⟩,⟨rfl⟩⟩
 rw[QY];simp-dsimp only[↓QW,Xw,QV,func304,f304,jZ,cV,TP,TZ,seval];apply Q2 a2 a5;intro a2 a5;simp-dsimp+contextual(maxSteps:=1000000)only[↓QW,eZ,seval]
 try simp only[Cm,eY]
 repeat rfl
def SE(a a3 a4){B a2}[A:QC Vx B a2]:LP T (n+1) 304 18 (Q7 [(3,.i .i64 a),(49,.imm 4 B),(50,.i .i64 a3),(51,.i .i64 a4)]) []=(run (Cb a2 a3) (a,a4)).map (λzr=>(XE.exit 6,Q7 [(3,.i .i64 zr)],[])):=by
 obtain⟨rfl⟩:=A;rw[QY];simp-dsimp only[↓QW,Xw,QV,func304,f304,jZ,cV,TP,TZ,seval];apply Q2 a a4;intro a a4;simp-dsimp+contextual only[↓QW,eZ,seval]
 try simp only[Cb,eY]
 repeat rfl
def eu{B a}[A:QD Va B a]:CP T (n+2) 304 [.agg B]=(IJ a).map λr=>.i .i64 r:=by
 obtain⟨rfl⟩:=A;rw[QM];simp-dsimp+contextual(maxSteps:=1000000)only[↓QW,eZ,seval,func304,f304,jZ,cV,Wi,Ul,Ti,SE]
 try simp only[IJ,eY]
 repeat rfl
def Ae{B a}[A:QD Va B a]:CP T (n+11) 221 [.agg B]=(V8 a).map λr=>.b r:=by
 obtain⟨rfl⟩:=A;rw[QM];simp-dsimp+contextual(maxSteps:=1000000)only[↓QW,eZ,seval,func221,f221,Qsu,yr,Vo,IX,K7,I3,Ii,Kq,E8,ay,Wr,eu]
 try simp only[V8,eY]
 repeat rfl
def YH(a){B s}[A:QC VA B s]:CP T (n+12) 133 [.i .i64 a,.imm 3 B]=(EH a s).map λr=>.tup [.agg (Xi r.1),.b r.2]:=by
 obtain⟨rfl⟩:=A;rw[QM];simp-dsimp+contextual(maxSteps:=1000000)only[↓QW,eZ,seval,func133,f133,QmO,wP,C7,Ae]
 try simp only[EH,eY]
 repeat rfl
def SQ(a){D l E f F o}[A:QC Vn D l][B:QD Vn E f][C:QC Vn F o]:LP T (n+1) 222 5 (Q7 [(0,.imm 8 D),(3,.ptr 0 0 0),(6,.sl 1),(7,.i .i64 a)]) [some (.box E),some (.lst 8 F)]=(run (GP l f o) a).map (λzr=>(XE.exit 0,Q7 [(0,.imm 8 (l.map Vn)),(3,.ptr 0 0 0),(6,.sl 1),(7,.i .i64 zr)],[some (.box (Vn f)),some (.lst 8 (o.map Vn))])):=by
 rcases A,B,C with⟨⟨rfl⟩,⟨rfl⟩,⟨rfl⟩⟩
 rw[QY];simp-dsimp only[↓QW,Xw,QV,func222,f222,Qgp,pD,TP,TZ,seval];apply Q5 a;intro a;simp-dsimp+contextual only[↓QW,eZ,seval,Ni]
 try simp only[GP,eY]
 repeat rfl
def cO{C l D f}[A:QC Vn C l][B:QD Vn D f]:CP T (n+6) 222 [.imm 8 C,.agg D]=(HX l f).map λr=>.tup [.own 8 (r.1.map Vn),.b r.2]:=by
 rcases A,B with⟨⟨rfl⟩,⟨rfl⟩⟩
 rw[QM];simp-dsimp+contextual only[↓QW,eZ,seval,func222,f222,Qgp,pD,Ni,I7,JL,Qch,IX,SQ]
 try simp only[HX,eY]
 all_goals first|rfl|(simp +contextual only[B8]<;>rfl)
def OQ(a2){D l E a F o}[A:QC VC D l][B:QD VC E a][C:QC VF F o]:LP T (n+1) 223 5 (Q7 [(0,.imm 3 D),(3,.ptr 0 0 0),(6,.sl 1),(7,.i .i64 a2)]) [some (.box E),some (.lst 3 F)]=(run (Fc l a o) a2).map (λzr=>(XE.exit 0,Q7 [(0,.imm 3 (l.map VC)),(3,.ptr 0 0 0),(6,.sl 1),(7,.i .i64 zr)],[some (.box (VC a)),some (.lst 3 (o.map VF))])):=by
 rcases A,B,C with⟨⟨rfl⟩,⟨rfl⟩,⟨rfl⟩⟩
 rw[QY];simp-dsimp only[↓QW,Xw,QV,func223,f223,Qf0,pY,TP,TZ,seval];apply Q5 a2;intro a2;simp-dsimp+contextual only[↓QW,eZ,seval,Ni]
 try simp only[Fc,eY]
 repeat rfl
def U6{C l D a}[A:QC VC C l][B:QD VC D a]:CP T (n+6) 223 [.imm 3 C,.agg D]=(FD l a).map λr=>.tup [.own 3 (r.1.map VF),.b r.2]:=by
 rcases A,B with⟨⟨rfl⟩,⟨rfl⟩⟩
 rw[QM];simp-dsimp+contextual only[↓QW,eZ,seval,func223,f223,Qf0,pY,Ni,I6,MS,Gl,QcO,K7,OQ]
 try simp only[FD,eY]
 all_goals first|rfl|(simp +contextual only[B8]<;>rfl)
def Sd(s b a2 a3){C l D a}[A:QC VA C l][B:QC VA D a]:LP T (n+1) 307 3 (Q7 [(0,.imm 3 C),(1,.i .i64 s),(5,.i .i64 b),(8,.imm 3 D),(9,.i .i64 a2),(10,.i .i64 a3)]) []=(run (EA l s a a2) (b,a3)).map (λzr=>(XE.exit 0,Q7 [(5,.i .i64 zr)],[])):=by
 rcases A,B with⟨⟨rfl⟩,⟨rfl⟩⟩
 rw[QY];simp-dsimp only[↓QW,Xw,QV,func307,f307,Qf5,qx,TP,TZ,seval];apply Q2 b a3;intro b a3;simp-dsimp+contextual only[↓QW,eZ,seval]
 try simp only[EA,eY]
 repeat rfl
def bv(s){B l}[A:QC VA B l]:CP T (n+2) 307 [.imm 3 B,.i .i64 s]=(HO l s).map λr=>.i .i64 r:=by
 obtain⟨rfl⟩:=A;rw[QM];simp-dsimp+contextual only[↓QW,eZ,seval,func307,f307,Qf5,qx,Sd]
 try simp only[HO,eY]
 repeat rfl
def cu{C l D a}[A:QC VA C l][B:QD CW D a]:CP T (n+8) 224 [.imm 3 C,.agg D]=(F8 l a).map λr=>.tup [.own 3 (r.1.map VA),.b r.2]:=by
 rcases A,B with⟨⟨rfl⟩,⟨rfl⟩⟩
 rw[QM];simp-dsimp+contextual only[↓QW,eZ,seval,func224,f224,QtF,Qaj,C7,bv,I3,Kn,AT]
 try simp only[F8,eY]
 all_goals first|rfl|(simp +contextual only[B8]<;>rfl)
def Od{C l D a}[A:QC Vv C l][B:QD Vv D a]:CP T (n+9) 225 [.imm 5 C,.agg D]=(Gb l a).map λr=>.tup [.own 5 (r.1.map Vv),.b r.2]:=by
 rcases A,B with⟨⟨rfl⟩,⟨rfl⟩⟩
 rw[QM];simp-dsimp+contextual only[↓QW,eZ,seval,func225,f225,Qsf,xv,MP,I8,Kq]
 try simp only[Gb,eY]
 try simp only[List.contains_nil,Qi,Bool.and_true,T7,List.length_append,List.length_cons,List.length_nil,Nat.zero_add,th,jG]
 all_goals first|rfl|(simp +contextual only[B8]<;>rfl)
def My(v a a2){B s}[A:QC sH B s]:LP T (n+1) 350 2 (Q7 [(0,.imm 1 B),(1,.b v),(7,.i .i64 a),(8,.i .i64 a2)]) []=Xt (run (JW s v a) a2) (λzr=>(XE.ret,Q7 [(4,.i .i64 zr)],[])) (λzr=>(XE.exit 0,Q7 [],[])):=by
 obtain⟨rfl⟩:=A;rw[QY];simp-dsimp only[↓QW,Xw,QV,func350,f350,Qf4,pe,TP,TZ,seval];apply Q5 a2;intro a2;simp-dsimp+contextual only[↓QW,eZ,seval]
 try simp only[JW,eY]
 repeat rfl
def O7(v){B s}[A:QC sH B s]:CP T (n+2) 350 [.imm 1 B,.b v]=(Fa s v).map λr=>.i .i64 r:=by
 obtain⟨rfl⟩:=A;rw[QM];simp-dsimp+contextual only[↓QW,eZ,seval,func350,f350,Qf4,pe,My]
 try simp only[Fa,eY]
 repeat rfl
def D0(v){B s}[A:QC sH B s]:CP T (n+3) 309 [.imm 1 B,.b v]=(XI s v).map λr=>.b r:=by
 obtain⟨rfl⟩:=A;rw[QM];simp-dsimp+contextual only[↓QW,eZ,seval,func309,f309,QrV,zU,O7]
 try simp only[XI,eY]
 repeat rfl
def DJ(oxNo oxNow){J a K oxFinds L oxSecrets M oxSlots N oxClaims O oxTrials P oxChain Q oxBook R d}[A:QD Va J a][B:QC Vn K oxFinds][C:QC VF L oxSecrets][D:QC VA M oxSlots][E:QC QZ N oxClaims][F:QC Vq O oxTrials][G:QC Vv P oxChain][H:QC Vx Q oxBook][I:QC sH R d]:CM T (n+12) 226 [some (.lst 8 K),some (.lst 3 L),some (.lst 3 M),some (.lst 5 N),some (.lst 4 O),some (.lst 5 P),some (.lst 4 Q),some (.lst 1 R)] [.agg J,.agg [.i .i64 oxNo,.sl 0,.sl 1,.sl 2,.sl 3,.sl 4,.sl 5,.sl 6,.i .i64 oxNow],.sl 7]=(Xx a (⟨oxNo,oxFinds,oxSecrets,oxSlots,oxClaims,oxTrials,oxChain,oxBook,oxNow⟩:Ql) d).map λr=>.tup [.agg (Xi r.1),.b r.2]:=by
 rcases A,B,C,D,E,F,G,H,I with⟨⟨rfl⟩,⟨rfl⟩,⟨rfl⟩,⟨rfl⟩,⟨rfl⟩,⟨rfl⟩,⟨rfl⟩,⟨rfl⟩,⟨rfl⟩⟩
 rw[Y8];simp-dsimp+contextual(maxSteps:=1000000)only[↓QW,eZ,seval,func226,f226,wT,kQ,D0,Ae,Xd]
 try simp only[Xx,eY]
 repeat rfl
def YK(s){D a E f F m}[A:QD Va D a][B:QD Vn E f][C:QC Xb F m]:CP T (n+13) 135 [.agg D,.agg E,.imm 2 F,.i .i64 s]=(ES a f m s).map λr=>.tup [.agg (Xi r.1),.b r.2]:=by
 rcases A,B,C with⟨⟨rfl⟩,⟨rfl⟩,⟨rfl⟩⟩
 rw[QM];simp-dsimp+contextual(maxSteps:=1000000)only[↓QW,eZ,seval,func135,f135,Qmm,zc,Ni,Xd,cO,U6,cu,Od,DJ]
 try simp only[ES,eY]
 repeat rfl
def RJ(c){B a}[A:QD QZ B a]:CP T (n+1) 243 [.agg B,.iptr 1 [[.i .i64 c]] 0 0]=(Gf a c).map λr=>.b r:=by
 obtain⟨rfl⟩:=A;rw[QM];simp-dsimp+contextual only[↓QW,eZ,seval,func243,f243,Qrp,vv]
 try simp only[Gf,eY]
 repeat rfl
def C2(f a a2){B s}[A:QC QZ B s]:LP T (n+2) 242 2 (Q7 [(0,.imm 5 B),(1,.clo 243 [.iptr 1 [[.i .i64 f]] 0 0]),(7,.i .i64 a),(8,.i .i64 a2)]) []=Xt (run (Vr s f a) a2) (λzr=>(XE.ret,Q7 [(4,.i .i64 zr)],[])) (λzr=>(XE.exit 0,Q7 [],[])):=by
 obtain⟨rfl⟩:=A;rw[QY];simp-dsimp only[↓QW,Xw,QV,func242,f242,WS,PB,TP,TZ,seval];apply Q5 a2;intro a2;simp-dsimp+contextual only[↓QW,eZ,seval,RJ]
 try simp only[Vr,eY]
 repeat rfl
def DU(c){B s}[A:QC QZ B s]:CP T (n+3) 242 [.imm 5 B,.clo 243 [.iptr 1 [[.i .i64 c]] 0 0]]=(Xg s c).map λr=>.i .i64 r:=by
 obtain⟨rfl⟩:=A;rw[QM];simp-dsimp+contextual only[↓QW,eZ,seval,func242,f242,WS,PB,C2]
 try simp only[Xg,eY]
 repeat rfl
def BC(i){B l}[A:QC QZ B l]:CP T (n+4) 143 [.imm 5 B,.i .i64 i]=(XK l i).map λr=>.i .i64 r:=by
 obtain⟨rfl⟩:=A;rw[QM];simp-dsimp+contextual only[↓QW,eZ,seval,func143,f143,Qnb,xd,DU]
 try simp only[XK,eY]
 repeat rfl
def Sl{C a D c}[A:QD QZ C a][B:QD QZ D c]:CP T (n+1) 310 [.agg C,.iptr 5 [D] 0 0]=(GU a c).map λr=>.b r:=by
 rcases A,B with⟨⟨rfl⟩,⟨rfl⟩⟩
 rw[QM];simp-dsimp+contextual only[↓QW,eZ,seval,func310,f310,QnD,QaZ]
 try simp only[GU,eY]
 repeat rfl
def Dq(a a2){C s D f}[A:QC QZ C s][B:QD QZ D f]:LP T (n+2) 242 2 (Q7 [(0,.imm 5 C),(1,.clo 310 [.iptr 5 [D] 0 0]),(7,.i .i64 a),(8,.i .i64 a2)]) []=Xt (run (Vu s f a) a2) (λzr=>(XE.ret,Q7 [(4,.i .i64 zr)],[])) (λzr=>(XE.exit 0,Q7 [],[])):=by
 rcases A,B with⟨⟨rfl⟩,⟨rfl⟩⟩
 rw[QY];simp-dsimp only[↓QW,Xw,QV,func242,f242,WS,PB,TP,TZ,seval];apply Q5 a2;intro a2;simp-dsimp+contextual only[↓QW,eZ,seval,Sl]
 try simp only[Vu,eY]
 repeat rfl
def Ef{C s D c}[A:QC QZ C s][B:QD QZ D c]:CP T (n+3) 242 [.imm 5 C,.clo 310 [.iptr 5 [D] 0 0]]=(Xm s c).map λr=>.i .i64 r:=by
 rcases A,B with⟨⟨rfl⟩,⟨rfl⟩⟩
 rw[QM];simp-dsimp+contextual only[↓QW,eZ,seval,func242,f242,WS,PB,Dq]
 try simp only[Xm,eY]
 repeat rfl
def Dm{C s D c}[A:QC QZ C s][B:QD QZ D c]:CP T (n+4) 251 [.imm 5 C,.clo 310 [.iptr 5 [D] 0 0]]=(VL s c).map λr=>.b r:=by
 rcases A,B with⟨⟨rfl⟩,⟨rfl⟩⟩
 rw[QM];simp-dsimp+contextual only[↓QW,eZ,seval,func251,f251,Qa1,kf,Ef]
 try simp only[VL,eY]
 repeat rfl
def Rl(a2){D l E a F o}[A:QC QZ D l][B:QD QZ E a][C:QC QZ F o]:LP T (n+1) 227 5 (Q7 [(0,.imm 5 D),(3,.ptr 0 0 0),(6,.sl 1),(7,.i .i64 a2)]) [some (.box E),some (.lst 5 F)]=(run (Bu l a o) a2).map (λzr=>(XE.exit 0,Q7 [(0,.imm 5 (l.map QZ)),(3,.ptr 0 0 0),(6,.sl 1),(7,.i .i64 zr)],[some (.box (QZ a)),some (.lst 5 (o.map QZ))])):=by
 rcases A,B,C with⟨⟨rfl⟩,⟨rfl⟩,⟨rfl⟩⟩
 rw[QY];simp-dsimp only[↓QW,Xw,QV,func227,f227,Qfy,pa,TP,TZ,seval];apply Q5 a2;intro a2;simp-dsimp+contextual only[↓QW,eZ,seval,Ni]
 try simp only[Bu,eY]
 repeat rfl
def Yc{C l D a}[A:QC QZ C l][B:QD QZ D a]:CP T (n+5) 227 [.imm 5 C,.agg D]=(GE l a).map λr=>.tup [.own 5 (r.1.map QZ),.b r.2]:=by
 rcases A,B with⟨⟨rfl⟩,⟨rfl⟩⟩
 rw[QM];simp-dsimp+contextual only[↓QW,eZ,seval,func227,f227,Qfy,pa,Ni,FI,BC,Dm,QeY,Ii,Rl]
 try simp only[GE,eY]
 all_goals first|rfl|(simp +contextual only[B8]<;>rfl)
def T0(oxNo oxNow){I a J oxFinds K oxSecrets L oxSlots M oxClaims N oxTrials O oxChain P oxBook}[A:QD Va I a][B:QC Vn J oxFinds][C:QC VF K oxSecrets][D:QC VA L oxSlots][E:QC QZ M oxClaims][F:QC Vq N oxTrials][G:QC Vv O oxChain][H:QC Vx P oxBook]:CM T (n+12) 226 [some (.lst 8 J),some (.lst 3 K),some (.lst 3 L),some (.lst 5 M),some (.lst 4 N),some (.lst 5 O),some (.lst 4 P)] [.agg I,.agg [.i .i64 oxNo,.sl 0,.sl 1,.sl 2,.sl 3,.sl 4,.sl 5,.sl 6,.i .i64 oxNow],.nil]=(Eo a (⟨oxNo,oxFinds,oxSecrets,oxSlots,oxClaims,oxTrials,oxChain,oxBook,oxNow⟩:Ql)).map λr=>.tup [.agg (Xi r.1),.b r.2]:=by
 rcases A,B,C,D,E,F,G,H with⟨⟨rfl⟩,⟨rfl⟩,⟨rfl⟩,⟨rfl⟩,⟨rfl⟩,⟨rfl⟩,⟨rfl⟩,⟨rfl⟩⟩
 rw[Y8];simp-dsimp+contextual(maxSteps:=1000000)only[↓QW,eZ,seval,func226,f226,wT,kQ,D0,Ae,Xd]
 try simp only[Eo,eY]
 repeat rfl
def U8(i w a2){B a}[A:QD Va B a]:CP T (n+13) 136 [.agg B,.i .i64 i,.i .i64 w,.i .i64 a2]=(Dd a i w a2).map λr=>.tup [.agg (Xi r.1),.b r.2]:=by
 obtain⟨rfl⟩:=A;rw[QM];simp-dsimp+contextual(maxSteps:=1000000)only[↓QW,eZ,seval,func136,f136,Qoq,Qa3,Ni,Xd,Yc,Ae,AT,BC,Qdu,T0]
 try simp only[Dd,eY]
 try simp only[List.contains_nil,Qi,Bool.and_true,T7,List.length_append,List.length_cons,List.length_nil,Nat.zero_add,th,jG]
 repeat rfl
def PY(c a){B l}[A:QC Xb B l]:CP T (n+6) 244 [.imm 2 B,.i .i64 c,.i .i64 a]=(Dl l c a).map λr=>.i .i64 r:=by
 obtain⟨rfl⟩:=A;rw[QM];simp-dsimp+contextual only[↓QW,eZ,seval,func244,f244,QpU,vm,IU,Vo,WE]
 try simp only[Dl,eY]
 repeat rfl
def Ka{C l D a}[A:QC Xb C l][B:QD Vq D a]:CP T (n+7) 144 [.imm 2 C,.agg D]=(Jl l a).map λr=>.i .i64 r:=by
 rcases A,B with⟨⟨rfl⟩,⟨rfl⟩⟩
 rw[QM];simp-dsimp+contextual only[↓QW,eZ,seval,func144,f144,Qnu,wb,HA,PY]
 try simp only[Jl,eY]
 repeat rfl
def Rw(q a2 a3){B a}[A:QC Xb B a]:LP T (n+1) 316 2 (Q7 [(1,.i .i64 q),(7,.imm 2 B),(8,.i .i64 a2),(9,.i .i64 a3)]) []=Xt (run (BJ q a a2) a3) (λzr=>(XE.ret,Q7 [(4,.i .i64 zr)],[])) (λzr=>(XE.exit 0,Q7 [],[])):=by
 obtain⟨rfl⟩:=A;rw[QY];simp-dsimp only[↓QW,Xw,QV,func316,f316,Qfs,qQ,TP,TZ,seval];apply Q5 a3;intro a3;simp-dsimp+contextual only[↓QW,eZ,seval]
 try simp only[BJ,eY]
 repeat rfl
def Ya(q){B l}[A:QC Xb B l]:CP T (n+2) 316 [.imm 2 B,.i .i64 q]=(GI l q).map λr=>.i .i64 r:=by
 obtain⟨rfl⟩:=A;rw[QM];simp-dsimp+contextual only[↓QW,eZ,seval,func316,f316,Qfs,qQ,Rw]
 try simp only[GI,eY]
 repeat rfl
def Tb(a2){C l D a}[A:QC Xb C l][B:QD Vq D a]:CP T (n+8) 230 [.imm 2 C,.agg D,.i .i64 a2]=(Ei l a a2).map λr=>.tup [.agg (Vq r.1),.b r.2]:=by
 rcases A,B with⟨⟨rfl⟩,⟨rfl⟩⟩
 rw[QM];simp-dsimp+contextual only[↓QW,eZ,seval,func230,f230,QsX,wA,Ka,Ya]
 try simp only[Ei,eY]
 repeat rfl
def MK(i s){B l}[A:QC QZ B l]:CP T (n+5) 232 [.imm 5 B,.i .i64 i,.i .i64 s]=(ZZ l i s).map λr=>.tup [.own 5 (r.1.map QZ),.b r.2]:=by
 obtain⟨rfl⟩:=A;rw[QM];simp-dsimp+contextual only[↓QW,eZ,seval,func232,f232,QrM,Qat,FI,BC,Ii]
 try simp only[ZZ,eY]
 all_goals first|rfl|(simp +contextual only[B8]<;>rfl)
def Tu(c a2){B a}[A:QD Va B a]:CP T (n+13) 137 [.agg B,.i .i64 c,.i .i64 a2]=(Cn a c a2).map λr=>.tup [.agg (Xi r.1),.b r.2]:=by
 obtain⟨rfl⟩:=A;rw[QM];simp-dsimp+contextual(maxSteps:=1000000)only[↓QW,eZ,seval,func137,f137,QqR,zR,Ni,Xd,BC,Ae,Kl,Tb,HA,MK,DJ]
 try simp only[Cn,eY]
 repeat rfl
end Go.Proofs.YtkgadcbajihilaaGreatDoor
