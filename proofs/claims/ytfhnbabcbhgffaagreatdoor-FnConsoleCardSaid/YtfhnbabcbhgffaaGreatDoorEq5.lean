import Derived.Test.YtfhnbabcbhgffaaGreatDoorEq4
set_option maxHeartbeats 4000000
set_option linter.unusedVariables false
set_option linter.unusedSimpArgs false
set_option linter.defProp false
set_option maxRecDepth 100000
namespace Go.Proofs.YtfhnbabcbhgffaaGreatDoor
open Go Go.Proofs Go.Proofs.YtfhnbabcbhgffaaGreatDoor.Am Tryz
variable(n:Nat)
def BL(a b a2 b2){B d}[A:QC CW B d]:LP T (n+7) 289 2 (Vm [(0,.sl 0),(1,.i .i64 a),(2,.clo 269 []),(6,.i .i64 b),(7,.i .i64 a2),(8,.i .i64 b2)]) [some (.lst 3 B)]=(run (Ve a b) (d,a2,b2)).map (λzr=>(XE.exit 0,Vm [(0,.sl 0),(1,.i .i64 a),(2,.clo 269 []),(6,.i .i64 b),(7,.i .i64 zr.2)],[some (.lst 3 (zr.1.map CW))])):=by
 obtain⟨rfl⟩:=A;rw[Vh];simp-dsimp only[↓QW,Zt,QX,func289,f289,mn,bo,TP,TZ,seval];apply HC d a2 b2;intro d a2 b2;simp-dsimp+contextual only[↓QW,eZ,seval,It,Jj]
 try simp only[Ve,eY]
 repeat rfl
def BK(a b a2 b2){B d}[A:QC CW B d]:LP T (n+2) 289 9 (Vm [(0,.sl 0),(1,.i .i64 a),(2,.clo 269 []),(6,.i .i64 b),(7,.i .i64 a2),(8,.i .i64 b2)]) [some (.lst 3 B)]=(run (XH d a b a2 b2) ()).map (λzr=>(XE.exit 4,Vm [(0,.sl 0),(1,.i .i64 a),(2,.clo 269 []),(6,.i .i64 b),(7,.i .i64 a2)],[some (.lst 3 (d.map CW))])):=by
 obtain⟨rfl⟩:=A;rw[Vh];simp-dsimp only[↓QW,Zt,QX,func289,f289,mn,bo,TP,TZ,seval];apply qS;simp-dsimp+contextual only[↓QW,eZ,seval,It]
 try simp only[XH,eY]
 repeat rfl
def BJ(a b){B d}[A:QC CW B d]:LP T (n+3) 289 7 (Vm [(0,.sl 0),(1,.i .i64 a),(2,.clo 269 []),(6,.i .i64 b)]) [some (.lst 3 B)]=(run (VE d a) b).map (λzr=>(XE.exit 2,Vm [(0,.sl 0)],[some (.lst 3 (d.map CW))])):=by
 obtain⟨rfl⟩:=A;rw[Vh];simp-dsimp only[↓QW,Zt,QX,func289,f289,mn,bo,TP,TZ,seval];apply Q9 b;intro b;simp-dsimp+contextual only[↓QW,eZ,seval,It,BK]
 try simp only[VE,eY]
 repeat rfl
def CB(a){B d}[A:QC CW B d]:CA T (n+8) 289 [some (.lst 3 B)] [.sl 0,.i .i64 a,.clo 269 []]=(Xc d a).map λr=>(.tup [],[some (.lst 3 (r.map CW))]):=by
 obtain⟨rfl⟩:=A;rw[HM];simp-dsimp+contextual only[↓QW,eZ,seval,func289,f289,mn,bo,It,Jj,BL,BJ]
 try simp only[Xc,eY]
 repeat rfl
def Ct{B a}[A:QC CW B a]:CA T (n+9) 268 [some (.lst 3 B)] [.sl 0,.clo 269 []]=(V8 a).map λr=>(.tup [],[some (.lst 3 (r.map CW))]):=by
 obtain⟨rfl⟩:=A;rw[HM];simp-dsimp+contextual only[↓QW,eZ,seval,func268,f268,Qjd,um,It,CB]
 try simp only[V8,eY]
 repeat rfl
def Rm{B l}[A:QC CW B l]:CP T (n+10) 227 [.imm 3 B]=(DO l).map λr=>.own 3 (r.map CW):=by
 obtain⟨rfl⟩:=A;rw[QU];simp-dsimp+contextual only[↓QW,eZ,seval,func227,f227,Qms,vE,It,OV,Ct]
 try simp only[DO,eY]
 all_goals first|rfl|(simp +contextual only[I1]<;>rfl)
def al{B l}[A:QC CW B l]:CP T (n+11) 148 [.imm 3 B]=(HA l).map λr=>.tup [.i .i64 r.1,.i .i64 r.2]:=by
 obtain⟨rfl⟩:=A;rw[QU];simp-dsimp+contextual only[↓QW,eZ,Nat.reduceAdd,Nat.reduceMul,Nat.reduceBEq,Nat.reduceLeDiff,Nat.reduceLT,func148,f148,Qj0,tt,U3,Rm]
 try simp only[HA,eY]
 repeat rfl
def Nv(c s a2 a3){D p E o F a}[A:QC Vn D p][B:QC Vn E o][C:QC Vn F a]:LP T (n+2) 228 6 (Vm [(0,.i .i64 c),(1,.imm 1 D),(5,.sl 0),(6,.i .i64 s),(25,.imm 1 F),(26,.i .i64 a2),(27,.i .i64 a3)]) [some (.lst 1 E)]=JR (run (ZU c p o a a2) (s,a3)) (λzr=>(XE.ret,Vm [(4,.sl 0)],[some (.lst 1 (zr.map Vn))])) (λzr=>(XE.exit 0,Vm [(0,.i .i64 c),(1,.imm 1 (p.map Vn)),(5,.sl 0),(6,.i .i64 zr)],[some (.lst 1 (o.map Vn))])):=by
 rcases A,B,C with⟨⟨rfl⟩,⟨rfl⟩,⟨rfl⟩⟩
 rw[Vh];simp-dsimp only[↓QW,Zt,QX,func228,f228,kJ,aX,TP,TZ,seval];apply VF s a3;intro s a3;simp-dsimp+contextual only[↓QW,eZ,seval,Vl]
 try simp only[ZU,eY]
 repeat rfl
def Mw(c s l a2 a3){C o D a}[A:QC Vn C o][B:QC Vn D a]:LP T (n+1) 228 16 (Vm [(0,.i .i64 c),(5,.sl 0),(6,.i .i64 s),(9,.i .i64 l),(43,.imm 1 D),(44,.i .i64 a2),(45,.i .i64 a3)]) [some (.lst 1 C)]=(run (JK c s a a2) (o,l,a3)).map (λzr=>(XE.exit 2,Vm [(5,.sl 0),(9,.i .i64 zr.2)],[some (.lst 1 (zr.1.map Vn))])):=by
 rcases A,B with⟨⟨rfl⟩,⟨rfl⟩⟩
 rw[Vh];simp-dsimp only[↓QW,Zt,QX,func228,f228,kJ,aX,TP,TZ,seval];apply HC o l a3;intro o l a3;simp-dsimp+contextual only[↓QW,eZ,seval]
 try simp only[JK,eY]
 repeat rfl
def Mx(l i){B o}[A:QC Vn B o]:LP T (n+1) 228 23 (Vm [(5,.sl 0),(9,.i .i64 l),(13,.i .i64 i)]) [some (.lst 1 B)]=(run ZH (o,l,i)).map (λzr=>(XE.exit 4,Vm [(5,.sl 0)],[some (.lst 1 (zr.map Vn))])):=by
 obtain⟨rfl⟩:=A;rw[Vh];simp-dsimp only[↓QW,Zt,QX,func228,f228,kJ,aX,TP,TZ,seval];apply HC o l i;intro o l i;simp-dsimp+contextual only[↓QW,eZ,seval]
 try simp only[ZH,eY]
 repeat rfl
def Sk(c){B p}[A:QC Vn B p]:CP T (n+3) 228 [.i .i64 c,.imm 1 B]=(D3 c p).map λr=>.own 1 (r.map Vn):=by
 obtain⟨rfl⟩:=A;rw[QU];simp-dsimp+contextual only[↓QW,eZ,seval,func228,f228,kJ,aX,Vl,Nv,Mw,Mx]
 try simp only[D3,eY]
 all_goals first|rfl|(simp +contextual only[I1]<;>rfl)
def Y6(p f):CP T (n+4) 149 [.i .i64 p,.i .i64 f]=(Fj p f).map λr=>.own 2 (r.map Tf):=by
 rw[QU];simp-dsimp+contextual only[↓QW,eZ,Nat.reduceAdd,Nat.reduceMul,Nat.reduceBEq,Nat.reduceLeDiff,Nat.reduceLT,func149,f149,QmM,sf,Vl,Sk]
 try simp only[Fj,eY]
 all_goals first|rfl|(simp +contextual only[I1]<;>rfl)
def Ux(a2){C a D b}[A:QD Vo C a][B:QC CW D b]:CP T (n+13) 72 [.agg C,.i .i64 a2,.imm 3 D]=(D8 a a2 b).map λr=>.tup [.agg (X4 r.1),.b r.2]:=by
 rcases A,B with⟨⟨rfl⟩,⟨rfl⟩⟩
 rw[QU];simp-dsimp+contextual(maxSteps:=1000000)only[↓QW,eZ,Nat.reduceAdd,Nat.reduceMul,Nat.reduceBEq,Nat.reduceLeDiff,Nat.reduceLT,func72,f72,Qpd,QdY,It,KG,al,KE,Xk,Ky,Mt,Y6,C0]
 try simp only[D8,eY]
 repeat rfl
def UC(a2){B a}[A:QD Vo B a]:CP T (n+13) 73 [.agg B,.i .i64 a2]=(Ep a a2).map λr=>.tup [.agg (X4 r.1),.b r.2]:=by
 obtain⟨rfl⟩:=A;rw[QU];simp-dsimp+contextual(maxSteps:=1000000)only[↓QW,eZ,seval,func73,f73,Qq4,Qdl,It,Xk,Vl,C0]
 try simp only[Ep,eY]
 repeat rfl
def Wb(w){C a D a2}[A:QD Vo C a][B:QC Vn D a2]:CP T (n+14) 24 [.agg C,.s w,.imm 1 D]=(DG a w a2).map (Zy (λ(r:Ql×Bool×Bool)=>.tup [.agg (X4 r.1),.b r.2.1,.b r.2.2]) λ_=>.tup [.agg [.i .i64 a.No,.z,.z,.z,.z,.z,.z,.z,.i .i64 a.Now],.b false,.b false]):=by
 rcases A,B with⟨⟨rfl⟩,⟨rfl⟩⟩
 rw[QU];simp-dsimp+contextual(maxSteps:=1000000)only[↓QW,eZ,Nat.reduceAdd,Nat.reduceMul,Nat.reduceBEq,Nat.reduceLeDiff,Nat.reduceLT,func24,f24,QrC,QcS,Ia,Ul,Ue,Td,Rt,SW,S5,Ux,UC]
 try simp only[DG,eY]
 repeat rfl
def Ww(w){C a D a2}[A:QD Vo C a][B:QC Vn D a2]:CP T (n+14) 24 [.agg C,.s w,.imm 1 D]=JR (DG a w a2) (λ(r:Ql×Bool×Bool)=>.tup [.agg (X4 r.1),.b r.2.1,.b r.2.2]) (λ_=>.tup [.agg [.i .i64 a.No,.z,.z,.z,.z,.z,.z,.z,.i .i64 a.Now],.b false,.b false]):=Wb n w
def Tx(c){B a}[A:QD VH B a]:CP T (n+1) 230 [.agg B,.iptr 1 [[.i .i64 c]] 0 0]=(GJ a c).map λr=>.b r:=by
 obtain⟨rfl⟩:=A;rw[QU];simp-dsimp+contextual only[↓QW,eZ,seval,func230,f230,QiJ,tO]
 try simp only[GJ,eY]
 repeat rfl
def Dk(f a a2){B s}[A:QC VH B s]:LP T (n+2) 229 2 (Vm [(0,.imm 4 B),(1,.clo 230 [.iptr 1 [[.i .i64 f]] 0 0]),(7,.i .i64 a),(8,.i .i64 a2)]) []=JR (run (VA s f a) a2) (λzr=>(XE.ret,Vm [(4,.i .i64 zr)],[])) (λzr=>(XE.exit 0,Vm [],[])):=by
 obtain⟨rfl⟩:=A;rw[Vh];simp-dsimp only[↓QW,Zt,QX,func229,f229,QaQ,kr,TP,TZ,seval];apply Q9 a2;intro a2;simp-dsimp+contextual only[↓QW,eZ,seval,Tx]
 try simp only[VA,eY]
 repeat rfl
def Es(c){B s}[A:QC VH B s]:CP T (n+3) 229 [.imm 4 B,.clo 230 [.iptr 1 [[.i .i64 c]] 0 0]]=(XC s c).map λr=>.i .i64 r:=by
 obtain⟨rfl⟩:=A;rw[QU];simp-dsimp+contextual only[↓QW,eZ,seval,func229,f229,QaQ,kr,Dk]
 try simp only[XC,eY]
 repeat rfl
def Wy(c){B a}[A:QD Vo B a]:CP T (n+4) 150 [.agg B,.i .i64 c]=(Ir a c).map λr=>.i .i64 r:=by
 obtain⟨rfl⟩:=A;rw[QU];simp-dsimp+contextual(maxSteps:=1000000)only[↓QW,eZ,seval,func150,f150,Qkx,vN,Es]
 try simp only[Ir,eY]
 repeat rfl
def YP(c){B a}[A:QD Vo B a]:CP T (n+5) 74 [.agg B,.i .i64 c]=(E8 a c).map λr=>.tup [.agg (VH r.1),.b r.2]:=by
 obtain⟨rfl⟩:=A;rw[QU];simp-dsimp+contextual(maxSteps:=1000000)only[↓QW,eZ,seval,func74,f74,Qs4,Qdj,Wy]
 try simp only[E8,eY]
 repeat rfl
def Ri(a a3 a4){C o D a2}[A:QC V0 C o][B:QC V0 D a2]:LP T (n+1) 155 3 (Vm [(1,.i .i64 a),(5,.sl 0),(9,.imm 5 D),(10,.i .i64 a3),(11,.i .i64 a4)]) [some (.lst 5 C)]=(run (FX a a2 a3) (o,a4)).map (λzr=>(XE.exit 0,Vm [(5,.sl 0)],[some (.lst 5 (zr.map V0))])):=by
 rcases A,B with⟨⟨rfl⟩,⟨rfl⟩⟩
 rw[Vh];simp-dsimp only[↓QW,Zt,QX,func155,f155,Qbh,lP,TP,TZ,seval];apply VF o a4;intro o a4;simp-dsimp+contextual only[↓QW,eZ,seval]
 try simp only[FX,eY]
 repeat rfl
def Wm(a){B l}[A:QC V0 B l]:CP T (n+2) 155 [.imm 5 B,.i .i64 a]=(GB l a).map λr=>.own 5 (r.map V0):=by
 obtain⟨rfl⟩:=A;rw[QU];simp-dsimp+contextual only[↓QW,eZ,seval,func155,f155,Qbh,lP,Ri]
 try simp only[GB,eY]
 all_goals first|rfl|(simp +contextual only[I1]<;>rfl)
def Rc(a):CP T (n+2) 156 [.i .i64 a]=(BY a).map λr=>.s r:=by
 rw[QU];simp-dsimp+contextual only[↓QW,eZ,seval,func156,f156,Qhz,vw,Vl]
 try simp only[BY,eY]
 repeat rfl
def Rk(a2 a3){C o D a}[A:QC IW C o][B:QC V0 D a]:LP T (n+3) 78 3 (Vm [(5,.sl 0),(11,.sl 1),(12,.i .i64 a2),(13,.i .i64 a3)]) [some (.lst 1 C),some (.lst 5 D)]=(run (BO a a2) (o,a3)).map (λzr=>(XE.exit 0,Vm [(5,.sl 0)],[some (.lst 1 (zr.map IW))])):=by
 rcases A,B with⟨⟨rfl⟩,⟨rfl⟩⟩
 rw[Vh];simp-dsimp only[↓QW,Zt,QX,func78,f78,Qlm,wu,TP,TZ,seval];apply VF o a3;intro o a3;simp-dsimp+contextual only[↓QW,eZ,seval,Rc,JC]
 try simp only[BO,eY]
 repeat rfl
def WI(a){B l}[A:QC V0 B l]:CP T (n+4) 78 [.imm 5 B,.i .i64 a]=(Ff l a).map λr=>.s r:=by
 obtain⟨rfl⟩:=A;rw[QU];simp-dsimp+contextual only[↓QW,eZ,seval,func78,f78,Qlm,wu,Wm,EQ,Rk]
 try simp only[Ff,eY]
 repeat rfl
def Uv(f):CP T (n+1) 80 [.i .i64 f]=(Ef f).map λr=>.s r:=by
 rw[QU];simp-dsimp+contextual only[↓QW,eZ,seval,func80,f80,QsF,QdI]
 try simp only[Ef,eY]
 repeat rfl
def OC(a a3 a4){C o D a2}[A:QC Vn C o][B:QC Vx D a2]:LP T (n+6) 82 3 (Vm [(1,.i .i64 a),(5,.sl 0),(9,.imm 8 D),(10,.i .i64 a3),(11,.i .i64 a4)]) [some (.lst 1 C)]=(run (As a a2 a3) (o,a4)).map (λzr=>(XE.exit 0,Vm [(5,.sl 0)],[some (.lst 1 (zr.map Vn))])):=by
 rcases A,B with⟨⟨rfl⟩,⟨rfl⟩⟩
 rw[Vh];simp-dsimp only[↓QW,Zt,QX,func82,f82,QmZ,zI,TP,TZ,seval];apply VF o a4;intro o a4;simp-dsimp+contextual only[↓QW,eZ,seval,LI]
 try simp only[As,eY]
 repeat rfl
def SU(a){B l}[A:QC Vx B l]:CP T (n+7) 82 [.imm 8 B,.i .i64 a]=(Df l a).map λr=>.own 1 (r.map Vn):=by
 obtain⟨rfl⟩:=A;rw[QU];simp-dsimp+contextual only[↓QW,eZ,seval,func82,f82,QmZ,zI,OC]
 try simp only[Df,eY]
 all_goals first|rfl|(simp +contextual only[I1]<;>rfl)
def RV(a a2 a4 a5){B a3}[A:QC VX B a3]:LP T (n+1) 163 3 (Vm [(1,.i .i64 a),(5,.i .i64 a2),(8,.imm 4 B),(9,.i .i64 a4),(10,.i .i64 a5)]) []=(run (X7 a a3 a4) (a2,a5)).map (λzr=>(XE.exit 0,Vm [(5,.i .i64 zr)],[])):=by
 obtain⟨rfl⟩:=A;rw[Vh];simp-dsimp only[↓QW,Zt,QX,func163,f163,QaS,kn,TP,TZ,seval];apply VF a2 a5;intro a2 a5;simp-dsimp+contextual only[↓QW,eZ,seval]
 try simp only[X7,eY]
 repeat rfl
def Wj(a){B l}[A:QC VX B l]:CP T (n+2) 163 [.imm 4 B,.i .i64 a]=(GT l a).map λr=>.i .i64 r:=by
 obtain⟨rfl⟩:=A;rw[QU];simp-dsimp+contextual only[↓QW,eZ,seval,func163,f163,QaS,kn,RV]
 try simp only[GT,eY]
 repeat rfl
def On(a a2 a4 a5){B a3}[A:QC VX B a3]:LP T (n+1) 164 5 (Vm [(1,.i .i64 a),(5,.i .i64 a2),(12,.imm 4 B),(13,.i .i64 a4),(14,.i .i64 a5)]) []=(run (Xx a a3 a4) (a2,a5)).map (λzr=>(XE.exit 0,Vm [(5,.i .i64 zr)],[])):=by
 obtain⟨rfl⟩:=A;rw[Vh];simp-dsimp only[↓QW,Zt,QX,func164,f164,Qa9,lx,TP,TZ,seval];apply VF a2 a5;intro a2 a5;simp-dsimp+contextual only[↓QW,eZ,seval]
 try simp only[Xx,eY]
 repeat rfl
def Tq(a){B l}[A:QC VX B l]:CP T (n+4) 164 [.imm 4 B,.i .i64 a]=(E5 l a).map λr=>.i .i64 r:=by
 obtain⟨rfl⟩:=A;rw[QU];simp-dsimp+contextual only[↓QW,eZ,seval,func164,f164,Qa9,lx,EF,On]
 try simp only[E5,eY]
 repeat rfl
def IN(a){B l}[A:QC VX B l]:CP T (n+5) 84 [.imm 4 B,.i .i64 a]=(JD l a).map λr=>.i .i64 r:=by
 obtain⟨rfl⟩:=A;rw[QU];simp-dsimp+contextual only[↓QW,eZ,seval,func84,f84,QqC,Qfm,EF,Wj,Tq]
 try simp only[JD,eY]
 repeat rfl
def Pr(c):CP T (n+3) 83 [.i .i64 c]=(CV c).map λr=>.s r:=by
 rw[QU];simp-dsimp+contextual only[↓QW,eZ,seval,func83,f83,QrP,Qdo,Vl,JC]
 try simp only[CV,eY]
 repeat rfl
def MG(a2 a3){C o D a}[A:QC IW C o][B:QC VL D a]:LP T (n+3) 85 3 (Vm [(3,.sl 0),(8,.imm 3 D),(9,.i .i64 a2),(10,.i .i64 a3)]) [some (.lst 1 C)]=(run (ZL a a2) (o,a3)).map (λzr=>(XE.exit 0,Vm [(3,.sl 0)],[some (.lst 1 (zr.map IW))])):=by
 rcases A,B with⟨⟨rfl⟩,⟨rfl⟩⟩
 rw[Vh];simp-dsimp only[↓QW,Zt,QX,func85,f85,QgY,Qal,TP,TZ,seval];apply VF o a3;intro o a3;simp-dsimp+contextual only[↓QW,eZ,seval,JC]
 try simp only[ZL,eY]
 repeat rfl
def Pk{B l}[A:QC VL B l]:CP T (n+4) 85 [.imm 3 B]=(Bj l).map λr=>.s r:=by
 obtain⟨rfl⟩:=A;rw[QU];simp-dsimp+contextual only[↓QW,eZ,seval,func85,f85,QgY,Qal,Kw,MG]
 try simp only[Bj,eY]
 repeat rfl
def L9(a2 a3){C o D a}[A:QC IW C o][B:QC Q1 D a]:LP T (n+3) 86 3 (Vm [(3,.sl 0),(8,.imm 5 D),(9,.i .i64 a2),(10,.i .i64 a3)]) [some (.lst 1 C)]=(run (Zj a a2) (o,a3)).map (λzr=>(XE.exit 0,Vm [(3,.sl 0)],[some (.lst 1 (zr.map IW))])):=by
 rcases A,B with⟨⟨rfl⟩,⟨rfl⟩⟩
 rw[Vh];simp-dsimp only[↓QW,Zt,QX,func86,f86,Qng,xC,TP,TZ,seval];apply VF o a3;intro o a3;simp-dsimp+contextual only[↓QW,eZ,seval,Vl,JC]
 try simp only[Zj,eY]
 repeat rfl
def Ow{B l}[A:QC Q1 B l]:CP T (n+4) 86 [.imm 5 B]=(Az l).map λr=>.s r:=by
 obtain⟨rfl⟩:=A;rw[QU];simp-dsimp+contextual only[↓QW,eZ,seval,func86,f86,Qng,xC,Kw,L9]
 try simp only[Az,eY]
 repeat rfl
def Pp{B a}[A:QD Vo B a]:CP T (n+5) 87 [.agg B]=(Bk a).map λr=>.s r:=by
 obtain⟨rfl⟩:=A;rw[QU];simp-dsimp+contextual(maxSteps:=1000000)only[↓QW,eZ,seval,func87,f87,Qpx,QgK,EP]
 try simp only[Bk,eY]
 repeat rfl
def My(a3 a4){D a E i F a2}[A:QD Vo D a][B:QC Vn E i][C:QC Vx F a2]:LP T (n+5) 165 3 (Vm [(1,.ptr 0 0 0),(3,.sl 1),(13,.imm 8 F),(14,.i .i64 a3),(15,.i .i64 a4)]) [some (.box D),some (.lst 1 E)]=JR (run (ZK a i a2 a3) a4) (λzr=>(XE.ret,Vm [(2,.b zr)],[])) (λzr=>(XE.exit 0,Vm [],[])):=by
 rcases A,B,C with⟨⟨rfl⟩,⟨rfl⟩,⟨rfl⟩⟩
 rw[Vh];simp-dsimp only[↓QW,Zt,QX,func165,f165,QbG,kQ,TP,TZ,seval];apply Q9 a4;intro a4;simp-dsimp+contextual(maxSteps:=1000000)only[↓QW,eZ,seval,HW,AD,Er]
 try simp only[ZK,eY]
 repeat rfl
def Pf{B a}[A:QD Vo B a]:CP T (n+10) 165 [.agg B]=(Dg a).map λr=>.b r:=by
 obtain⟨rfl⟩:=A;rw[QU];simp-dsimp+contextual(maxSteps:=1000000)only[↓QW,eZ,seval,func165,f165,QbG,kQ,Nw,My]
 try simp only[Dg,eY]
 repeat rfl
def Rp{C c D c2}[A:QD Q1 C c][B:QD V0 D c2]:CP T (n+1) 275 [.agg C,.iptr 5 [D] 0 0]=(Gd c c2).map λr=>.b r:=by
 rcases A,B with⟨⟨rfl⟩,⟨rfl⟩⟩
 rw[QU];simp-dsimp+contextual only[↓QW,eZ,seval,func275,f275,Qhm,qI]
 try simp only[Gd,eY]
 repeat rfl
def C6(a a2){C s D f}[A:QC Q1 C s][B:QD V0 D f]:LP T (n+2) 151 2 (Vm [(0,.imm 5 C),(1,.clo 275 [.iptr 5 [D] 0 0]),(7,.i .i64 a),(8,.i .i64 a2)]) []=JR (run (Vw s f a) a2) (λzr=>(XE.ret,Vm [(4,.i .i64 zr)],[])) (λzr=>(XE.exit 0,Vm [],[])):=by
 rcases A,B with⟨⟨rfl⟩,⟨rfl⟩⟩
 rw[Vh];simp-dsimp only[↓QW,Zt,QX,func151,f151,TD,OQ,TP,TZ,seval];apply Q9 a2;intro a2;simp-dsimp+contextual only[↓QW,eZ,seval,Rp]
 try simp only[Vw,eY]
 repeat rfl
def DR{C s D c}[A:QC Q1 C s][B:QD V0 D c]:CP T (n+3) 151 [.imm 5 C,.clo 275 [.iptr 5 [D] 0 0]]=(Xs s c).map λr=>.i .i64 r:=by
 rcases A,B with⟨⟨rfl⟩,⟨rfl⟩⟩
 rw[QU];simp-dsimp+contextual only[↓QW,eZ,seval,func151,f151,TD,OQ,C6]
 try simp only[Xs,eY]
 repeat rfl
def C3{C s D c}[A:QC Q1 C s][B:QD V0 D c]:CP T (n+4) 160 [.imm 5 C,.clo 275 [.iptr 5 [D] 0 0]]=(VP s c).map λr=>.b r:=by
 rcases A,B with⟨⟨rfl⟩,⟨rfl⟩⟩
 rw[QU];simp-dsimp+contextual only[↓QW,eZ,seval,func160,f160,rU,gI,DR]
 try simp only[VP,eY]
 repeat rfl
def Mf{C a D a2}[A:QD Vo C a][B:QD V0 D a2]:CP T (n+5) 238 [.agg C,.agg D]=(Em a a2).map λr=>.b r:=by
 rcases A,B with⟨⟨rfl⟩,⟨rfl⟩⟩
 rw[QU];simp-dsimp+contextual(maxSteps:=1000000)only[↓QW,eZ,seval,func238,f238,Qh6,sV,C3]
 try simp only[Em,eY]
 repeat rfl
def Ot(a3 a4){C a D a2}[A:QD Vo C a][B:QC V0 D a2]:LP T (n+6) 166 2 (Vm [(1,.ptr 0 0 0),(7,.imm 5 D),(8,.i .i64 a3),(9,.i .i64 a4)]) [some (.box C)]=JR (run (Aq a a2 a3) a4) (λzr=>(XE.ret,Vm [(2,.b zr)],[])) (λzr=>(XE.exit 0,Vm [],[])):=by
 rcases A,B with⟨⟨rfl⟩,⟨rfl⟩⟩
 rw[Vh];simp-dsimp only[↓QW,Zt,QX,func166,f166,Qa1,lU,TP,TZ,seval];apply Q9 a4;intro a4;simp-dsimp+contextual(maxSteps:=1000000)only[↓QW,eZ,seval,Mf,Zq]
 try simp only[Aq,eY]
 repeat rfl
def S9{B a}[A:QD Vo B a]:CP T (n+7) 166 [.agg B]=(E4 a).map λr=>.b r:=by
 obtain⟨rfl⟩:=A;rw[QU];simp-dsimp+contextual(maxSteps:=1000000)only[↓QW,eZ,seval,func166,f166,Qa1,lU,Ot]
 try simp only[E4,eY]
 repeat rfl
def LE(a3 a4){C a D a2}[A:QD Vo C a][B:QC V0 D a2]:LP T (n+6) 167 2 (Vm [(1,.ptr 0 0 0),(7,.imm 5 D),(8,.i .i64 a3),(9,.i .i64 a4)]) [some (.box C)]=JR (run (Zl a a2 a3) a4) (λzr=>(XE.ret,Vm [(2,.b zr)],[])) (λzr=>(XE.exit 0,Vm [],[])):=by
 rcases A,B with⟨⟨rfl⟩,⟨rfl⟩⟩
 rw[Vh];simp-dsimp only[↓QW,Zt,QX,func167,f167,Qav,kV,TP,TZ,seval];apply Q9 a4;intro a4;simp-dsimp+contextual(maxSteps:=1000000)only[↓QW,eZ,seval,Mf,Zq,LI]
 try simp only[Zl,eY]
 repeat rfl
def Ov{B a}[A:QD Vo B a]:CP T (n+7) 167 [.agg B]=(Cl a).map λr=>.b r:=by
 obtain⟨rfl⟩:=A;rw[QU];simp-dsimp+contextual(maxSteps:=1000000)only[↓QW,eZ,seval,func167,f167,Qav,kV,LE]
 try simp only[Cl,eY]
 repeat rfl
def LD(s2 a2 a3){C s D a}[A:QC KJ C s][B:QC KJ D a]:LP T (n+1) 294 3 (Vm [(0,.imm 1 C),(3,.i .i64 s2),(9,.imm 1 D),(10,.i .i64 a2),(11,.i .i64 a3)]) []=(run (XD s a a2) (s2,a3)).map (λzr=>(XE.exit 0,Vm [(0,.imm 1 (s.map KJ)),(3,.i .i64 zr)],[])):=by
 rcases A,B with⟨⟨rfl⟩,⟨rfl⟩⟩
 rw[Vh];simp-dsimp only[↓QW,Zt,QX,func294,f294,rJ,fg,TP,TZ,seval];apply VF s2 a3;intro s2 a3;simp-dsimp+contextual only[↓QW,eZ,seval]
 try simp only[XD,eY]
 repeat rfl
def Lf(a3 a4){C a D a2}[A:QC Vn C a][B:QC KJ D a2]:LP T (n+1) 294 11 (Vm [(6,.sl 0),(25,.imm 1 D),(26,.i .i64 a3),(27,.i .i64 a4)]) [some (.lst 1 C)]=(run (Jd a2 a3) (a,a4)).map (λzr=>(XE.exit 2,Vm [(6,.sl 0)],[some (.lst 1 (zr.map Vn))])):=by
 rcases A,B with⟨⟨rfl⟩,⟨rfl⟩⟩
 rw[Vh];simp-dsimp only[↓QW,Zt,QX,func294,f294,rJ,fg,TP,TZ,seval];apply VF a a4;intro a a4;simp-dsimp+contextual only[↓QW,eZ,seval]
 try simp only[Jd,eY]
 repeat rfl
def Of{B s}[A:QC KJ B s]:CP T (n+2) 294 [.imm 1 B]=(Ck s).map λr=>.own 1 (r.map Vn):=by
 obtain⟨rfl⟩:=A;rw[QU];simp-dsimp+contextual only[↓QW,eZ,seval,func294,f294,rJ,fg,Sb,LD,Lf]
 try simp only[Ck,eY]
 all_goals first|rfl|(simp +contextual only[I1]<;>rfl)
def SC{B a}[A:QC Vn B a]:CP T (n+3) 276 [.imm 1 B,.nil]=(GA a).map λr=>.own 1 (r.map Vn):=by
 obtain⟨rfl⟩:=A;rw[QU];simp-dsimp+contextual only[↓QW,eZ,seval,func276,f276,Qg2,pX,It,Of]
 try simp only[GA,eY]
 all_goals first|rfl|(simp +contextual only[I1]<;>rfl)
def MP(a2 a3){C o D a}[A:QC Vn C o][B:QC VX D a]:LP T (n+1) 239 3 (Vm [(3,.sl 0),(7,.imm 4 D),(8,.i .i64 a2),(9,.i .i64 a3)]) [some (.lst 1 C)]=(run (Zi a a2) (o,a3)).map (λzr=>(XE.exit 0,Vm [(3,.sl 0)],[some (.lst 1 (zr.map Vn))])):=by
 rcases A,B with⟨⟨rfl⟩,⟨rfl⟩⟩
 rw[Vh];simp-dsimp only[↓QW,Zt,QX,func239,f239,QbK,kE,TP,TZ,seval];apply VF o a3;intro o a3;simp-dsimp+contextual only[↓QW,eZ,seval]
 try simp only[Zi,eY]
 repeat rfl
def Rh{B l}[A:QC VX B l]:CP T (n+4) 239 [.imm 4 B]=(BZ l).map λr=>.own 1 (r.map Vn):=by
 obtain⟨rfl⟩:=A;rw[QU];simp-dsimp+contextual only[↓QW,eZ,seval,func239,f239,QbK,kE,SC,MP]
 try simp only[BZ,eY]
 all_goals first|rfl|(simp +contextual only[I1]<;>rfl)
def Np(s a3 a4){C a D a2}[A:QD Vo C a][B:QC Vn D a2]:LP T (n+6) 168 3 (Vm [(1,.ptr 0 0 0),(3,.i .i64 s),(8,.sl 1),(9,.i .i64 a3),(10,.i .i64 a4)]) [some (.box C),some (.lst 1 D)]=(run (Jq a a2 a3) (s,a4)).map (λzr=>(XE.exit 0,Vm [(1,.ptr 0 0 0),(3,.i .i64 zr)],[some (.box (Vo a))])):=by
 rcases A,B with⟨⟨rfl⟩,⟨rfl⟩⟩
 rw[Vh];simp-dsimp only[↓QW,Zt,QX,func168,f168,Qa7,lG,TP,TZ,seval];apply VF s a4;intro s a4;simp-dsimp+contextual(maxSteps:=1000000)only[↓QW,eZ,seval,IN]
 try simp only[Jq,eY]
 repeat rfl
def PX{B a}[A:QD Vo B a]:CP T (n+7) 168 [.agg B]=(DL a).map λr=>.b r:=by
 obtain⟨rfl⟩:=A;rw[QU];simp-dsimp+contextual(maxSteps:=1000000)only[↓QW,eZ,seval,func168,f168,Qa7,lG,Rh,IN,Np]
 try simp only[DL,eY]
 repeat rfl
def WQ{B a}[A:QD Vo B a]:CP T (n+12) 88 [.agg B]=(Fe a).map λr=>.s r:=by
 obtain⟨rfl⟩:=A;rw[QU];simp-dsimp+contextual(maxSteps:=1000000)only[↓QW,eZ,seval,func88,f88,Qo4,Qc3,Ae,Pf,S9,Ov,PX]
 try simp only[Fe,eY]
 repeat rfl
def gY(w){C a D a2}[A:QD Vo C a][B:QC Vn D a2]:CP T (n+13) 25 [.agg C,.s w,.imm 1 D]=(Dc a w a2).map λr=>.s r:=by
 rcases A,B with⟨⟨rfl⟩,⟨rfl⟩⟩
 rw[QU];simp-dsimp+contextual(maxSteps:=1000000)only[↓QW,eZ,Nat.reduceAdd,Nat.reduceMul,Nat.reduceBEq,Nat.reduceLeDiff,Nat.reduceLT,func25,f25,Qqx,QcP,YP,Bl,IM,Ib,JC,WI,Zq,KE,Uv,SU,EP,IN,Pr,Pk,Ow,Pp,WQ]
 try simp only[Dc,eY]
 try simp only[List.contains_nil,Qi,Bool.and_true,Xy,List.length_append,List.length_cons,List.length_nil,Nat.zero_add,Xt,X3]
 repeat rfl
def MA(l a3 a4){D a E w F a2}[A:QD Vo D a][B:QC IW E w][C:QC IW F a2]:LP T (n+1) 6 3 (Vm [(1,.s l),(2,.ptr 0 0 0),(4,.ptr 1 0 0),(6,.sl 2),(18,.sl 3),(19,.i .i64 a3),(20,.i .i64 a4)]) [some (.box D),some (.box [.i .i64 0,.nil,.nil,.nil,.nil,.nil,.nil,.nil,.i .i64 0]),some (.lst 1 E),some (.lst 1 F)]=(run (JJ l a a2 a3) (w,a4)).map (λzr=>(XE.exit 0,Vm [(1,.s l),(2,.ptr 0 0 0),(4,.ptr 1 0 0),(6,.sl 2)],[some (.box (Vo a)),some (.box [.i .i64 0,.nil,.nil,.nil,.nil,.nil,.nil,.nil,.i .i64 0]),some (.lst 1 (zr.map IW))])):=by
 rcases A,B,C with⟨⟨rfl⟩,⟨rfl⟩,⟨rfl⟩⟩
 rw[Vh];simp-dsimp only[↓QW,Zt,QX,func6,f6,Aa6,An6,TP,TZ,seval];apply VF w a4;intro w a4;simp-dsimp+contextual(maxSteps:=1000000)only[↓QW,eZ,seval]
 try simp only[JJ,eY]
 try simp only[List.contains_nil,Qi,Bool.and_true,Xy,List.length_append,List.length_cons,List.length_nil,Nat.zero_add,Xt,X3]
 repeat rfl
def Gj(l){B a}[A:QD Vo B a]:CP T (n+15) 6 [.agg B,.s l]=(Zk a l).map λr=>.tup [.agg (X4 r.1),.s r.2]:=by
 obtain⟨rfl⟩:=A;rw[QU];simp-dsimp+contextual(maxSteps:=1000000)only[↓QW,eZ,Nat.reduceAdd,Nat.reduceMul,Nat.reduceBEq,Nat.reduceLeDiff,Nat.reduceLT,func6,f6,Aa6,An6,Qi,Qh,Gb,cY,Xk,EQ,O6,P6,EP,SY,Ww,gY,MA]
 try simp only[Zk,eY]
 try simp only[List.contains_nil,Qi,Bool.and_true,Xy,List.length_append,List.length_cons,List.length_nil,Nat.zero_add,Xt,X3]
 repeat rfl
def L0(a a2){C s D s2}[A:QC Vx C s][B:QC Vx D s2]:LP T (n+1) 26 4 (Vm [(0,.imm 8 C),(1,.imm 8 D),(12,.i .i64 a),(13,.i .i64 a2)]) []=JR (run (Jn s s2 a) a2) (λzr=>(XE.ret,Vm [(4,.b zr)],[])) (λzr=>(XE.exit 0,Vm [],[])):=by
 rcases A,B with⟨⟨rfl⟩,⟨rfl⟩⟩
 rw[Vh];simp-dsimp only[↓QW,Zt,QX,func26,f26,Qnc,xS,TP,TZ,seval];apply Q9 a2;intro a2;simp-dsimp+contextual only[↓QW,eZ,seval]
 try simp only[Jn,eY]
 repeat rfl
def Ok{C s D s2}[A:QC Vx C s][B:QC Vx D s2]:CP T (n+2) 26 [.imm 8 C,.imm 8 D]=(B8 s s2).map λr=>.b r:=by
 rcases A,B with⟨⟨rfl⟩,⟨rfl⟩⟩
 rw[QU];simp-dsimp+contextual only[↓QW,eZ,seval,func26,f26,Qnc,xS,L0]
 try simp only[B8,eY]
 repeat rfl
def L7(a a2){C s D s2}[A:QC X6 C s][B:QC X6 D s2]:LP T (n+1) 91 4 (Vm [(0,.imm 2 C),(1,.imm 2 D),(12,.i .i64 a),(13,.i .i64 a2)]) []=JR (run (Jx s s2 a) a2) (λzr=>(XE.ret,Vm [(4,.b zr)],[])) (λzr=>(XE.exit 0,Vm [],[])):=by
 rcases A,B with⟨⟨rfl⟩,⟨rfl⟩⟩
 rw[Vh];simp-dsimp only[↓QW,Zt,QX,func91,f91,QnL,wU,TP,TZ,seval];apply Q9 a2;intro a2;simp-dsimp+contextual only[↓QW,eZ,seval]
 try simp only[Jx,eY]
 repeat rfl
def N9{C s D s2}[A:QC X6 C s][B:QC X6 D s2]:CP T (n+2) 91 [.imm 2 C,.imm 2 D]=(Cd s s2).map λr=>.b r:=by
 rcases A,B with⟨⟨rfl⟩,⟨rfl⟩⟩
 rw[QU];simp-dsimp+contextual only[↓QW,eZ,seval,func91,f91,QnL,wU,L7]
 try simp only[Cd,eY]
 repeat rfl
def MD{C a D a2}[A:QD V2 C a][B:QD V2 D a2]:CP T (n+3) 90 [.agg C,.agg D]=(AM a a2).map λr=>.b r:=by
 rcases A,B with⟨⟨rfl⟩,⟨rfl⟩⟩
 rw[QU];simp-dsimp+contextual only[↓QW,eZ,seval,func90,f90,Qod,QfA,N9]
 try simp only[AM,eY]
 repeat rfl
def BH(a2 a3){C s D a}[A:QC V2 C s][B:QC V2 D a]:LP T (n+4) 89 4 (Vm [(1,.imm 3 C),(2,.clo 90 []),(15,.imm 3 D),(16,.i .i64 a2),(17,.i .i64 a3)]) []=JR (run (Vi s a a2) a3) (λzr=>(XE.ret,Vm [(6,.b zr)],[])) (λzr=>(XE.exit 0,Vm [],[])):=by
 rcases A,B with⟨⟨rfl⟩,⟨rfl⟩⟩
 rw[Vh];simp-dsimp only[↓QW,Zt,QX,func89,f89,QlJ,ym,TP,TZ,seval];apply Q9 a3;intro a3;simp-dsimp+contextual only[↓QW,eZ,seval,MD]
 try simp only[Vi,eY]
 repeat rfl
def Cr{C s D s2}[A:QC V2 C s][B:QC V2 D s2]:CP T (n+5) 89 [.imm 3 C,.imm 3 D,.clo 90 []]=(V9 s s2).map λr=>.b r:=by
 rcases A,B with⟨⟨rfl⟩,⟨rfl⟩⟩
 rw[QU];simp-dsimp+contextual only[↓QW,eZ,seval,func89,f89,QlJ,ym,BH]
 try simp only[V9,eY]
 repeat rfl
def Oh{C a D b}[A:QC V2 C a][B:QC V2 D b]:CP T (n+6) 27 [.imm 3 C,.imm 3 D]=(B5 a b).map λr=>.b r:=by
 rcases A,B with⟨⟨rfl⟩,⟨rfl⟩⟩
 rw[QU];simp-dsimp+contextual only[↓QW,eZ,seval,func27,f27,QsS,Qf2,Cr]
 try simp only[B5,eY]
 repeat rfl
end Go.Proofs.YtfhnbabcbhgffaaGreatDoor
