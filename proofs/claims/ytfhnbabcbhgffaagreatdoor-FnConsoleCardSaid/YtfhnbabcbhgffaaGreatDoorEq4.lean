import Derived.Test.YtfhnbabcbhgffaaGreatDoorEq3
set_option maxHeartbeats 4000000
set_option linter.unusedVariables false
set_option linter.unusedSimpArgs false
set_option linter.defProp false
set_option maxRecDepth 100000
namespace Go.Proofs.YtfhnbabcbhgffaaGreatDoor
open Go Go.Proofs Go.Proofs.YtfhnbabcbhgffaaGreatDoor.Am Tryz
variable(n:Nat)
def SM(a2 a4 a5){C a D a3}[A:QD Vo C a][B:QC Q1 D a3]:LP T (n+1) 211 8 (Vm [(1,.ptr 0 0 0),(3,.i .i64 a2),(25,.imm 5 D),(26,.i .i64 a4),(27,.i .i64 a5)]) [some (.box C)]=(run (CU a a3 a4) (a2,a5)).map (λzr=>(XE.exit 2,Vm [(1,.ptr 0 0 0),(3,.i .i64 zr)],[some (.box (Vo a))])):=by
 rcases A,B with⟨⟨rfl⟩,⟨rfl⟩⟩
 rw[Vh];simp-dsimp only[↓QW,Zt,QX,func211,f211,ib,W0,TP,TZ,seval];apply VF a2 a5;intro a2 a5;simp-dsimp+contextual(maxSteps:=1000000)only[↓QW,eZ,seval]
 try simp only[CU,eY]
 repeat rfl
def RY(a2 a4 a5){C a D a3}[A:QD Vo C a][B:QC V0 D a3]:LP T (n+1) 211 13 (Vm [(1,.ptr 0 0 0),(3,.i .i64 a2),(37,.imm 5 D),(38,.i .i64 a4),(39,.i .i64 a5)]) [some (.box C)]=(run (BW a a3 a4) (a2,a5)).map (λzr=>(XE.exit 4,Vm [(1,.ptr 0 0 0),(3,.i .i64 zr)],[some (.box (Vo a))])):=by
 rcases A,B with⟨⟨rfl⟩,⟨rfl⟩⟩
 rw[Vh];simp-dsimp only[↓QW,Zt,QX,func211,f211,ib,W0,TP,TZ,seval];apply VF a2 a5;intro a2 a5;simp-dsimp+contextual(maxSteps:=1000000)only[↓QW,eZ,seval]
 try simp only[BW,eY]
 repeat rfl
def P1(a a3 a4){B a2}[A:QC VX B a2]:LP T (n+1) 211 18 (Vm [(3,.i .i64 a),(49,.imm 4 B),(50,.i .i64 a3),(51,.i .i64 a4)]) []=(run (BM a2 a3) (a,a4)).map (λzr=>(XE.exit 6,Vm [(3,.i .i64 zr)],[])):=by
 obtain⟨rfl⟩:=A;rw[Vh];simp-dsimp only[↓QW,Zt,QX,func211,f211,ib,W0,TP,TZ,seval];apply VF a a4;intro a a4;simp-dsimp+contextual only[↓QW,eZ,seval]
 try simp only[BM,eY]
 repeat rfl
def ag{B a}[A:QD Vo B a]:CP T (n+2) 211 [.agg B]=(HK a).map λr=>.i .i64 r:=by
 obtain⟨rfl⟩:=A;rw[QU];simp-dsimp+contextual(maxSteps:=1000000)only[↓QW,eZ,seval,func211,f211,ib,W0,Tk,SM,RY,P1]
 try simp only[HK,eY]
 repeat rfl
def Ae{B a}[A:QD Vo B a]:CP T (n+11) 132 [.agg B]=(Xh a).map λr=>.b r:=by
 obtain⟨rfl⟩:=A;rw[QU];simp-dsimp+contextual(maxSteps:=1000000)only[↓QW,eZ,seval,func132,f132,Qlk,rG,Vl,HS,Kg,Gc,Hp,IG,EF,WK,SD,ag]
 try simp only[Xh,eY]
 repeat rfl
def Ul(a){B s}[A:QC VL B s]:CP T (n+12) 66 [.i .i64 a,.imm 3 B]=(Eb a s).map λr=>.tup [.agg (X4 r.1),.b r.2]:=by
 obtain⟨rfl⟩:=A;rw[QU];simp-dsimp+contextual(maxSteps:=1000000)only[↓QW,eZ,seval,func66,f66,Qoz,Qgm,CD,Ae]
 try simp only[Eb,eY]
 repeat rfl
def RU(a){D l E f F o}[A:QC Vx D l][B:QD Vx E f][C:QC Vx F o]:LP T (n+1) 133 5 (Vm [(0,.imm 8 D),(3,.ptr 0 0 0),(6,.sl 1),(7,.i .i64 a)]) [some (.box E),some (.lst 8 F)]=(run (F7 l f o) a).map (λzr=>(XE.exit 0,Vm [(0,.imm 8 (l.map Vx)),(3,.ptr 0 0 0),(6,.sl 1),(7,.i .i64 zr)],[some (.box (Vx f)),some (.lst 8 (o.map Vx))])):=by
 rcases A,B,C with⟨⟨rfl⟩,⟨rfl⟩,⟨rfl⟩⟩
 rw[Vh];simp-dsimp only[↓QW,Zt,QX,func133,f133,Qa6,lN,TP,TZ,seval];apply Q9 a;intro a;simp-dsimp+contextual only[↓QW,eZ,seval,It]
 try simp only[F7,eY]
 repeat rfl
def Wr{C l D f}[A:QC Vx C l][B:QD Vx D f]:CP T (n+6) 133 [.imm 8 C,.agg D]=(GG l f).map λr=>.tup [.own 8 (r.1.map Vx),.b r.2]:=by
 rcases A,B with⟨⟨rfl⟩,⟨rfl⟩⟩
 rw[QU];simp-dsimp+contextual only[↓QW,eZ,seval,func133,f133,Qa6,lN,It,Ie,Zq,xf,HS,RU]
 try simp only[GG,eY]
 all_goals first|rfl|(simp +contextual only[I1]<;>rfl)
def OE(a2){D l E a F o}[A:QC V2 D l][B:QD V2 E a][C:QC Vy F o]:LP T (n+1) 134 5 (Vm [(0,.imm 3 D),(3,.ptr 0 0 0),(6,.sl 1),(7,.i .i64 a2)]) [some (.box E),some (.lst 3 F)]=(run (Ey l a o) a2).map (λzr=>(XE.exit 0,Vm [(0,.imm 3 (l.map V2)),(3,.ptr 0 0 0),(6,.sl 1),(7,.i .i64 zr)],[some (.box (V2 a)),some (.lst 3 (o.map Vy))])):=by
 rcases A,B,C with⟨⟨rfl⟩,⟨rfl⟩,⟨rfl⟩⟩
 rw[Vh];simp-dsimp only[↓QW,Zt,QX,func134,f134,QbH,kH,TP,TZ,seval];apply Q9 a2;intro a2;simp-dsimp+contextual only[↓QW,eZ,seval,It]
 try simp only[Ey,eY]
 repeat rfl
def Sz{C l D a}[A:QC V2 C l][B:QD V2 D a]:CP T (n+6) 134 [.imm 3 C,.agg D]=(EW l a).map λr=>.tup [.own 3 (r.1.map Vy),.b r.2]:=by
 rcases A,B with⟨⟨rfl⟩,⟨rfl⟩⟩
 rw[QU];simp-dsimp+contextual only[↓QW,eZ,seval,func134,f134,QbH,kH,It,H0,Mo,FJ,zh,Kg,OE]
 try simp only[EW,eY]
 all_goals first|rfl|(simp +contextual only[I1]<;>rfl)
def Rs(s b a2 a3){C l D a}[A:QC VL C l][B:QC VL D a]:LP T (n+1) 214 3 (Vm [(0,.imm 3 C),(1,.i .i64 s),(5,.i .i64 b),(8,.imm 3 D),(9,.i .i64 a2),(10,.i .i64 a3)]) []=(run (DX l s a a2) (b,a3)).map (λzr=>(XE.exit 0,Vm [(5,.i .i64 zr)],[])):=by
 rcases A,B with⟨⟨rfl⟩,⟨rfl⟩⟩
 rw[Vh];simp-dsimp only[↓QW,Zt,QX,func214,f214,QbZ,mM,TP,TZ,seval];apply VF b a3;intro b a3;simp-dsimp+contextual only[↓QW,eZ,seval]
 try simp only[DX,eY]
 repeat rfl
def YW(s){B l}[A:QC VL B l]:CP T (n+2) 214 [.imm 3 B,.i .i64 s]=(G1 l s).map λr=>.i .i64 r:=by
 obtain⟨rfl⟩:=A;rw[QU];simp-dsimp+contextual only[↓QW,eZ,seval,func214,f214,QbZ,mM,Rs]
 try simp only[G1,eY]
 repeat rfl
def Yc{C l D a}[A:QC VL C l][B:QD ET D a]:CP T (n+8) 135 [.imm 3 C,.agg D]=(Fm l a).map λr=>.tup [.own 3 (r.1.map VL),.b r.2]:=by
 rcases A,B with⟨⟨rfl⟩,⟨rfl⟩⟩
 rw[QU];simp-dsimp+contextual only[↓QW,eZ,seval,func135,f135,QnR,sd,CD,YW,Gc,IJ,AD]
 try simp only[Fm,eY]
 all_goals first|rfl|(simp +contextual only[I1]<;>rfl)
def MQ{C l D a}[A:QC V0 C l][B:QD V0 D a]:CP T (n+9) 136 [.imm 5 C,.agg D]=(Fq l a).map λr=>.tup [.own 5 (r.1.map V0),.b r.2]:=by
 rcases A,B with⟨⟨rfl⟩,⟨rfl⟩⟩
 rw[QU];simp-dsimp+contextual only[↓QW,eZ,seval,func136,f136,QhG,rz,Me,HZ,IG]
 try simp only[Fq,eY]
 try simp only[List.contains_nil,Qi,Bool.and_true,Xy,List.length_append,List.length_cons,List.length_nil,Nat.zero_add,Xt,X3]
 all_goals first|rfl|(simp +contextual only[I1]<;>rfl)
def LZ(v a a2){B s}[A:QC pb B s]:LP T (n+1) 260 2 (Vm [(0,.imm 1 B),(1,.b v),(7,.i .i64 a),(8,.i .i64 a2)]) []=JR (run (Zr s v a) a2) (λzr=>(XE.ret,Vm [(4,.i .i64 zr)],[])) (λzr=>(XE.exit 0,Vm [],[])):=by
 obtain⟨rfl⟩:=A;rw[Vh];simp-dsimp only[↓QW,Zt,QX,func260,f260,Qau,kP,TP,TZ,seval];apply Q9 a2;intro a2;simp-dsimp+contextual only[↓QW,eZ,seval]
 try simp only[Zr,eY]
 repeat rfl
def N8(v){B s}[A:QC pb B s]:CP T (n+2) 260 [.imm 1 B,.b v]=(EG s v).map λr=>.i .i64 r:=by
 obtain⟨rfl⟩:=A;rw[QU];simp-dsimp+contextual only[↓QW,eZ,seval,func260,f260,Qau,kP,LZ]
 try simp only[EG,eY]
 repeat rfl
def DB(v){B s}[A:QC pb B s]:CP T (n+3) 216 [.imm 1 B,.b v]=(XZ s v).map λr=>.b r:=by
 obtain⟨rfl⟩:=A;rw[QU];simp-dsimp+contextual only[↓QW,eZ,seval,func216,f216,QnG,qJ,N8]
 try simp only[XZ,eY]
 repeat rfl
def C0(oxNo oxNow){J a K oxFinds L oxSecrets M oxSlots N oxClaims O oxTrials P oxChain Q oxBook R d}[A:QD Vo J a][B:QC Vx K oxFinds][C:QC Vy L oxSecrets][D:QC VL M oxSlots][E:QC Q1 N oxClaims][F:QC VH O oxTrials][G:QC V0 P oxChain][H:QC VX Q oxBook][I:QC pb R d]:CM T (n+12) 137 [some (.lst 8 K),some (.lst 3 L),some (.lst 3 M),some (.lst 5 N),some (.lst 4 O),some (.lst 5 P),some (.lst 4 Q),some (.lst 1 R)] [.agg J,.agg [.i .i64 oxNo,.sl 0,.sl 1,.sl 2,.sl 3,.sl 4,.sl 5,.sl 6,.i .i64 oxNow],.sl 7]=(XK a (⟨oxNo,oxFinds,oxSecrets,oxSlots,oxClaims,oxTrials,oxChain,oxBook,oxNow⟩:Ql) d).map λr=>.tup [.agg (X4 r.1),.b r.2]:=by
 rcases A,B,C,D,E,F,G,H,I with⟨⟨rfl⟩,⟨rfl⟩,⟨rfl⟩,⟨rfl⟩,⟨rfl⟩,⟨rfl⟩,⟨rfl⟩,⟨rfl⟩,⟨rfl⟩⟩
 rw[bu];simp-dsimp+contextual(maxSteps:=1000000)only[↓QW,eZ,seval,func137,f137,so,fH,DB,Ae,Xk]
 try simp only[XK,eY]
 repeat rfl
def Ue(s){D a E f F m}[A:QD Vo D a][B:QD Vx E f][C:QC X6 F m]:CP T (n+13) 67 [.agg D,.agg E,.imm 2 F,.i .i64 s]=(Ej a f m s).map λr=>.tup [.agg (X4 r.1),.b r.2]:=by
 rcases A,B,C with⟨⟨rfl⟩,⟨rfl⟩,⟨rfl⟩⟩
 rw[QU];simp-dsimp+contextual(maxSteps:=1000000)only[↓QW,eZ,seval,func67,f67,Qsj,Qe6,It,Xk,Wr,Sz,Yc,MQ,C0]
 try simp only[Ej,eY]
 repeat rfl
def OS(c){B a}[A:QD Q1 B a]:CP T (n+1) 152 [.agg B,.iptr 1 [[.i .i64 c]] 0 0]=(Fw a c).map λr=>.b r:=by
 obtain⟨rfl⟩:=A;rw[QU];simp-dsimp+contextual only[↓QW,eZ,seval,func152,f152,Qmg,sJ]
 try simp only[Fw,eY]
 repeat rfl
def CC(f a a2){B s}[A:QC Q1 B s]:LP T (n+2) 151 2 (Vm [(0,.imm 5 B),(1,.clo 152 [.iptr 1 [[.i .i64 f]] 0 0]),(7,.i .i64 a),(8,.i .i64 a2)]) []=JR (run (Vr s f a) a2) (λzr=>(XE.ret,Vm [(4,.i .i64 zr)],[])) (λzr=>(XE.exit 0,Vm [],[])):=by
 obtain⟨rfl⟩:=A;rw[Vh];simp-dsimp only[↓QW,Zt,QX,func151,f151,TD,OQ,TP,TZ,seval];apply Q9 a2;intro a2;simp-dsimp+contextual only[↓QW,eZ,seval,OS]
 try simp only[Vr,eY]
 repeat rfl
def Dw(c){B s}[A:QC Q1 B s]:CP T (n+3) 151 [.imm 5 B,.clo 152 [.iptr 1 [[.i .i64 c]] 0 0]]=(Xn s c).map λr=>.i .i64 r:=by
 obtain⟨rfl⟩:=A;rw[QU];simp-dsimp+contextual only[↓QW,eZ,seval,func151,f151,TD,OQ,CC]
 try simp only[Xn,eY]
 repeat rfl
def Bl(i){B l}[A:QC Q1 B l]:CP T (n+4) 75 [.imm 5 B,.i .i64 i]=(X8 l i).map λr=>.i .i64 r:=by
 obtain⟨rfl⟩:=A;rw[QU];simp-dsimp+contextual only[↓QW,eZ,seval,func75,f75,Qsm,Qe9,Dw]
 try simp only[X8,eY]
 repeat rfl
def P8{C a D c}[A:QD Q1 C a][B:QD Q1 D c]:CP T (n+1) 217 [.agg C,.iptr 5 [D] 0 0]=(F2 a c).map λr=>.b r:=by
 rcases A,B with⟨⟨rfl⟩,⟨rfl⟩⟩
 rw[QU];simp-dsimp+contextual only[↓QW,eZ,seval,func217,f217,Qhd,qx]
 try simp only[F2,eY]
 repeat rfl
def CS(a a2){C s D f}[A:QC Q1 C s][B:QD Q1 D f]:LP T (n+2) 151 2 (Vm [(0,.imm 5 C),(1,.clo 217 [.iptr 5 [D] 0 0]),(7,.i .i64 a),(8,.i .i64 a2)]) []=JR (run (Vs s f a) a2) (λzr=>(XE.ret,Vm [(4,.i .i64 zr)],[])) (λzr=>(XE.exit 0,Vm [],[])):=by
 rcases A,B with⟨⟨rfl⟩,⟨rfl⟩⟩
 rw[Vh];simp-dsimp only[↓QW,Zt,QX,func151,f151,TD,OQ,TP,TZ,seval];apply Q9 a2;intro a2;simp-dsimp+contextual only[↓QW,eZ,seval,P8]
 try simp only[Vs,eY]
 repeat rfl
def DP{C s D c}[A:QC Q1 C s][B:QD Q1 D c]:CP T (n+3) 151 [.imm 5 C,.clo 217 [.iptr 5 [D] 0 0]]=(Xq s c).map λr=>.i .i64 r:=by
 rcases A,B with⟨⟨rfl⟩,⟨rfl⟩⟩
 rw[QU];simp-dsimp+contextual only[↓QW,eZ,seval,func151,f151,TD,OQ,CS]
 try simp only[Xq,eY]
 repeat rfl
def CO{C s D c}[A:QC Q1 C s][B:QD Q1 D c]:CP T (n+4) 160 [.imm 5 C,.clo 217 [.iptr 5 [D] 0 0]]=(VN s c).map λr=>.b r:=by
 rcases A,B with⟨⟨rfl⟩,⟨rfl⟩⟩
 rw[QU];simp-dsimp+contextual only[↓QW,eZ,seval,func160,f160,rU,gI,DP]
 try simp only[VN,eY]
 repeat rfl
def O3(a2){D l E a F o}[A:QC Q1 D l][B:QD Q1 E a][C:QC Q1 F o]:LP T (n+1) 138 5 (Vm [(0,.imm 5 D),(3,.ptr 0 0 0),(6,.sl 1),(7,.i .i64 a2)]) [some (.box E),some (.lst 5 F)]=(run (Bi l a o) a2).map (λzr=>(XE.exit 0,Vm [(0,.imm 5 (l.map Q1)),(3,.ptr 0 0 0),(6,.sl 1),(7,.i .i64 zr)],[some (.box (Q1 a)),some (.lst 5 (o.map Q1))])):=by
 rcases A,B,C with⟨⟨rfl⟩,⟨rfl⟩,⟨rfl⟩⟩
 rw[Vh];simp-dsimp only[↓QW,Zt,QX,func138,f138,Qbn,k0,TP,TZ,seval];apply Q9 a2;intro a2;simp-dsimp+contextual only[↓QW,eZ,seval,It]
 try simp only[Bi,eY]
 repeat rfl
def Ui{C l D a}[A:QC Q1 C l][B:QD Q1 D a]:CP T (n+5) 138 [.imm 5 C,.agg D]=(FS l a).map λr=>.tup [.own 5 (r.1.map Q1),.b r.2]:=by
 rcases A,B with⟨⟨rfl⟩,⟨rfl⟩⟩
 rw[QU];simp-dsimp+contextual only[↓QW,eZ,seval,func138,f138,Qbn,k0,It,EU,Bl,CO,zf,Hp,O3]
 try simp only[FS,eY]
 all_goals first|rfl|(simp +contextual only[I1]<;>rfl)
def Rq(oxNo oxNow){I a J oxFinds K oxSecrets L oxSlots M oxClaims N oxTrials O oxChain P oxBook}[A:QD Vo I a][B:QC Vx J oxFinds][C:QC Vy K oxSecrets][D:QC VL L oxSlots][E:QC Q1 M oxClaims][F:QC VH N oxTrials][G:QC V0 O oxChain][H:QC VX P oxBook]:CM T (n+12) 137 [some (.lst 8 J),some (.lst 3 K),some (.lst 3 L),some (.lst 5 M),some (.lst 4 N),some (.lst 5 O),some (.lst 4 P)] [.agg I,.agg [.i .i64 oxNo,.sl 0,.sl 1,.sl 2,.sl 3,.sl 4,.sl 5,.sl 6,.i .i64 oxNow],.nil]=(D6 a (⟨oxNo,oxFinds,oxSecrets,oxSlots,oxClaims,oxTrials,oxChain,oxBook,oxNow⟩:Ql)).map λr=>.tup [.agg (X4 r.1),.b r.2]:=by
 rcases A,B,C,D,E,F,G,H with⟨⟨rfl⟩,⟨rfl⟩,⟨rfl⟩,⟨rfl⟩,⟨rfl⟩,⟨rfl⟩,⟨rfl⟩,⟨rfl⟩⟩
 rw[bu];simp-dsimp+contextual(maxSteps:=1000000)only[↓QW,eZ,seval,func137,f137,so,fH,DB,Ae,Xk]
 try simp only[D6,eY]
 repeat rfl
def Td(i w a2){B a}[A:QD Vo B a]:CP T (n+13) 68 [.agg B,.i .i64 i,.i .i64 w,.i .i64 a2]=(Di a i w a2).map λr=>.tup [.agg (X4 r.1),.b r.2]:=by
 obtain⟨rfl⟩:=A;rw[QU];simp-dsimp+contextual(maxSteps:=1000000)only[↓QW,eZ,seval,func68,f68,QpU,QeF,It,Xk,Ui,Ae,AD,Bl,zV,Rq]
 try simp only[Di,eY]
 try simp only[List.contains_nil,Qi,Bool.and_true,Xy,List.length_append,List.length_cons,List.length_nil,Nat.zero_add,Xt,X3]
 repeat rfl
def O0(c a){B l}[A:QC X6 B l]:CP T (n+6) 153 [.imm 2 B,.i .i64 c,.i .i64 a]=(Dh l c a).map λr=>.i .i64 r:=by
 obtain⟨rfl⟩:=A;rw[QU];simp-dsimp+contextual only[↓QW,eZ,seval,func153,f153,QhB,pS,HQ,Vl,TR]
 try simp only[Dh,eY]
 repeat rfl
def Ib{C l D a}[A:QC X6 C l][B:QD VH D a]:CP T (n+7) 76 [.imm 2 C,.agg D]=(JP l a).map λr=>.i .i64 r:=by
 rcases A,B with⟨⟨rfl⟩,⟨rfl⟩⟩
 rw[QU];simp-dsimp+contextual only[↓QW,eZ,seval,func76,f76,QsT,Qeb,GQ,O0]
 try simp only[JP,eY]
 repeat rfl
def Pi(q a2 a3){B a}[A:QC X6 B a]:LP T (n+1) 221 2 (Vm [(1,.i .i64 q),(7,.imm 2 B),(8,.i .i64 a2),(9,.i .i64 a3)]) []=JR (run (Bh q a a2) a3) (λzr=>(XE.ret,Vm [(4,.i .i64 zr)],[])) (λzr=>(XE.exit 0,Vm [],[])):=by
 obtain⟨rfl⟩:=A;rw[Vh];simp-dsimp only[↓QW,Zt,QX,func221,f221,Qb4,k7,TP,TZ,seval];apply Q9 a3;intro a3;simp-dsimp+contextual only[↓QW,eZ,seval]
 try simp only[Bh,eY]
 repeat rfl
def Uc(q){B l}[A:QC X6 B l]:CP T (n+2) 221 [.imm 2 B,.i .i64 q]=(FR l q).map λr=>.i .i64 r:=by
 obtain⟨rfl⟩:=A;rw[QU];simp-dsimp+contextual only[↓QW,eZ,seval,func221,f221,Qb4,k7,Pi]
 try simp only[FR,eY]
 repeat rfl
def Sa(a2){C l D a}[A:QC X6 C l][B:QD VH D a]:CP T (n+8) 140 [.imm 2 C,.agg D,.i .i64 a2]=(DN l a a2).map λr=>.tup [.agg (VH r.1),.b r.2]:=by
 rcases A,B with⟨⟨rfl⟩,⟨rfl⟩⟩
 rw[QU];simp-dsimp+contextual only[↓QW,eZ,seval,func140,f140,Qli,vK,Ib,Uc]
 try simp only[DN,eY]
 repeat rfl
def Mp(i s){B l}[A:QC Q1 B l]:CP T (n+5) 142 [.imm 5 B,.i .i64 i,.i .i64 s]=(Aa l i s).map λr=>.tup [.own 5 (r.1.map Q1),.b r.2]:=by
 obtain⟨rfl⟩:=A;rw[QU];simp-dsimp+contextual only[↓QW,eZ,seval,func142,f142,QkQ,uq,EU,Bl,Hp]
 try simp only[Aa,eY]
 all_goals first|rfl|(simp +contextual only[I1]<;>rfl)
def Rt(c a2){B a}[A:QD Vo B a]:CP T (n+13) 69 [.agg B,.i .i64 c,.i .i64 a2]=(B0 a c a2).map λr=>.tup [.agg (X4 r.1),.b r.2]:=by
 obtain⟨rfl⟩:=A;rw[QU];simp-dsimp+contextual(maxSteps:=1000000)only[↓QW,eZ,seval,func69,f69,QqH,QdR,It,Xk,Bl,Ae,IM,Sa,GQ,Mp,C0]
 try simp only[B0,eY]
 repeat rfl
def KG(a2){B a}[A:QD Vo B a]:CP T (n+12) 143 [.agg B,.i .i64 a2]=(Dm a a2).map λr=>.tup [.agg (Vx r.1),.b r.2]:=by
 obtain⟨rfl⟩:=A;rw[QU];simp-dsimp+contextual(maxSteps:=1000000)only[↓QW,eZ,seval,func143,f143,Qj9,sj,Zq,Ae,AD]
 try simp only[Dm,eY]
 repeat rfl
def Mv(a f a3 a4){C b D a2}[A:QD Q1 C b][B:QC Q1 D a2]:LP T (n+1) 144 4 (Vm [(1,.i .i64 a),(5,.ptr 0 0 0),(6,.b f),(10,.imm 5 D),(11,.i .i64 a3),(12,.i .i64 a4)]) [some (.box C)]=(run (Xf a a2 a3) (b,f,a4)).map (λzr=>(XE.exit 0,Vm [(5,.ptr 0 0 0)],[some (.box (Q1 zr))])):=by
 rcases A,B with⟨⟨rfl⟩,⟨rfl⟩⟩
 rw[Vh];simp-dsimp only[↓QW,Zt,QX,func144,f144,QbR,km,TP,TZ,seval];apply HC b f a4;intro b f a4;simp-dsimp+contextual only[↓QW,eZ,seval]
 try simp only[Xf,eY]
 repeat rfl
def IS(a){B l}[A:QC Q1 B l]:CP T (n+2) 144 [.imm 5 B,.i .i64 a]=(Z0 l a).map λr=>.i .i64 r:=by
 obtain⟨rfl⟩:=A;rw[QU];simp-dsimp+contextual only[↓QW,eZ,seval,func144,f144,QbR,km,Mv]
 try simp only[Z0,eY]
 repeat rfl
def Wz(a){B l}[A:QC VL B l]:CP T (n+8) 225 [.imm 3 B,.i .i64 a]=(Fv l a).map λr=>.tup [.own 3 (r.1.map VL),.b r.2]:=by
 obtain⟨rfl⟩:=A;rw[QU];simp-dsimp+contextual only[↓QW,eZ,seval,func225,f225,Qk3,tu,CD,AD,Gc]
 try simp only[Fv,eY]
 all_goals first|rfl|(simp +contextual only[I1]<;>rfl)
def Ky(a2 a3 w){B a}[A:QD Vo B a]:CP T (n+10) 145 [.agg B,.i .i64 a2,.i .i64 a3,.i .i64 w]=(Cf a a2 a3 w).map λr=>.tup [.agg (X4 r.1),.b r.2]:=by
 obtain⟨rfl⟩:=A;rw[QU];simp-dsimp+contextual(maxSteps:=1000000)only[↓QW,eZ,seval,func145,f145,QiM,qH,Xk,Wz,MQ]
 try simp only[Cf,eY]
 repeat rfl
def aS(d){B a}[A:QD ET B a]:CP T (n+3) 146 [.agg B,.i .i64 d]=(HG a d).map λr=>.i .i64 r:=by
 obtain⟨rfl⟩:=A;rw[QU];simp-dsimp+contextual only[↓QW,eZ,seval,func146,f146,QhO,uw,IJ,Vl]
 try simp only[HG,eY]
 repeat rfl
def Mt{C l D a}[A:QC VX C l][B:QD VX D a]:CP T (n+4) 147 [.imm 4 C,.agg D]=(A7 l a).map λr=>.tup [.own 4 (r.1.map VX),.b r.2]:=by
 rcases A,B with⟨⟨rfl⟩,⟨rfl⟩⟩
 rw[QU];simp-dsimp+contextual only[↓QW,eZ,seval,func147,f147,QjT,qv,HE,EF]
 try simp only[A7,eY]
 try simp only[List.contains_nil,Qi,Bool.and_true,Xy,List.length_append,List.length_cons,List.length_nil,Nat.zero_add,Xt,X3]
 all_goals first|rfl|(simp +contextual only[I1]<;>rfl)
def SW(a2){B a}[A:QD Vo B a]:CP T (n+13) 70 [.agg B,.i .i64 a2]=(C4 a a2).map λr=>.tup [.agg (X4 r.1),.b r.2]:=by
 obtain⟨rfl⟩:=A;rw[QU];simp-dsimp+contextual(maxSteps:=1000000)only[↓QW,eZ,seval,func70,f70,QsJ,Qfq,It,KG,IS,Xk,Bl,Ky,Mp,aS,Mt,C0]
 try simp only[C4,eY]
 repeat rfl
def UB(k):CP T (n+1) 272 [.i .i64 k]=(FN k).map λr=>.i .i64 r:=by
 rw[QU];simp-dsimp+contextual only[↓QW,eZ,seval,func272,f272,Qhu,rY]
 try simp only[FN,eY]
 repeat rfl
def YV{B f}[A:QD Vx B f]:CP T (n+4) 234 [.agg B]=(GK f).map λr=>.i .i64 r:=by
 obtain⟨rfl⟩:=A;rw[QU];simp-dsimp+contextual only[↓QW,eZ,seval,func234,f234,QgX,rc,Hu,UB]
 try simp only[GK,eY]
 repeat rfl
def LI(a){B f}[A:QD Vx B f]:CP T (n+5) 159 [.agg B,.i .i64 a]=(BD f a).map λr=>.b r:=by
 obtain⟨rfl⟩:=A;rw[QU];simp-dsimp+contextual only[↓QW,eZ,seval,func159,f159,Qil,qd,Hu,YV]
 try simp only[BD,eY]
 repeat rfl
def T7{C c D c2}[A:QD Q1 C c][B:QD ET D c2]:CP T (n+1) 161 [.agg C,.iptr 5 [D] 0 0]=(Hy c c2).map λr=>.b r:=by
 rcases A,B with⟨⟨rfl⟩,⟨rfl⟩⟩
 rw[QU];simp-dsimp+contextual only[↓QW,eZ,seval,func161,f161,QkL,pN]
 try simp only[Hy,eY]
 repeat rfl
def DC(a a2){C s D f}[A:QC Q1 C s][B:QD ET D f]:LP T (n+2) 151 2 (Vm [(0,.imm 5 C),(1,.clo 161 [.iptr 5 [D] 0 0]),(7,.i .i64 a),(8,.i .i64 a2)]) []=JR (run (VD s f a) a2) (λzr=>(XE.ret,Vm [(4,.i .i64 zr)],[])) (λzr=>(XE.exit 0,Vm [],[])):=by
 rcases A,B with⟨⟨rfl⟩,⟨rfl⟩⟩
 rw[Vh];simp-dsimp only[↓QW,Zt,QX,func151,f151,TD,OQ,TP,TZ,seval];apply Q9 a2;intro a2;simp-dsimp+contextual only[↓QW,eZ,seval,T7]
 try simp only[VD,eY]
 repeat rfl
def EJ{C s D c}[A:QC Q1 C s][B:QD ET D c]:CP T (n+3) 151 [.imm 5 C,.clo 161 [.iptr 5 [D] 0 0]]=(XI s c).map λr=>.i .i64 r:=by
 rcases A,B with⟨⟨rfl⟩,⟨rfl⟩⟩
 rw[QU];simp-dsimp+contextual only[↓QW,eZ,seval,func151,f151,TD,OQ,DC]
 try simp only[XI,eY]
 repeat rfl
def DD{C s D c}[A:QC Q1 C s][B:QD ET D c]:CP T (n+4) 160 [.imm 5 C,.clo 161 [.iptr 5 [D] 0 0]]=(VY s c).map λr=>.b r:=by
 rcases A,B with⟨⟨rfl⟩,⟨rfl⟩⟩
 rw[QU];simp-dsimp+contextual only[↓QW,eZ,seval,func160,f160,rU,gI,EJ]
 try simp only[VY,eY]
 repeat rfl
def KE(a){C f D l}[A:QD Vx C f][B:QC Q1 D l]:CP T (n+6) 81 [.agg C,.imm 5 D,.i .i64 a]=(Do f l a).map λr=>.i .i64 r:=by
 rcases A,B with⟨⟨rfl⟩,⟨rfl⟩⟩
 rw[QU];simp-dsimp+contextual only[↓QW,eZ,seval,func81,f81,Qsw,QdK,IS,LI,DD]
 try simp only[Do,eY]
 repeat rfl
def Tp{D a E o F d}[A:QD Vo D a][B:QD Vo E o][C:QC pb F d]:CM T (n+12) 137 [some (.lst 1 F)] [.agg D,.agg E,.sl 0]=(Db a o d).map λr=>.tup [.agg (X4 r.1),.b r.2]:=by
 rcases A,B,C with⟨⟨rfl⟩,⟨rfl⟩,⟨rfl⟩⟩
 rw[bu];simp-dsimp+contextual(maxSteps:=1000000)only[↓QW,eZ,seval,func137,f137,so,fH,DB,Ae,Xk]
 try simp only[Db,eY]
 repeat rfl
def S5(a2){B a}[A:QD Vo B a]:CP T (n+13) 71 [.agg B,.i .i64 a2]=(C1 a a2).map λr=>.tup [.agg (X4 r.1),.b r.2]:=by
 obtain⟨rfl⟩:=A;rw[QU];simp-dsimp+contextual(maxSteps:=1000000)only[↓QW,eZ,seval,func71,f71,QpK,Qd4,It,KG,Xk,KE,Ky,C0,Tp]
 try simp only[C1,eY]
 repeat rfl
def dl{B a}[A:QD CW B a]:CP T (n+2) 264 [.agg B]=(IA a).map λr=>.b r:=by
 obtain⟨rfl⟩:=A;rw[QU];simp-dsimp+contextual only[↓QW,eZ,seval,func264,f264,Qjm,uk,Vl]
 try simp only[IA,eY]
 repeat rfl
def Ta{C a D c}[A:QD CW C a][B:QD CW D c]:CP T (n+1) 266 [.agg C,.iptr 3 [D] 0 0]=(G5 a c).map λr=>.b r:=by
 rcases A,B with⟨⟨rfl⟩,⟨rfl⟩⟩
 rw[QU];simp-dsimp+contextual only[↓QW,eZ,seval,func266,f266,QlL,uf]
 try simp only[G5,eY]
 repeat rfl
def D0(a a2){C s D f}[A:QC CW C s][B:QD CW D f]:LP T (n+2) 288 2 (Vm [(0,.imm 3 C),(1,.clo 266 [.iptr 3 [D] 0 0]),(7,.i .i64 a),(8,.i .i64 a2)]) []=JR (run (VG s f a) a2) (λzr=>(XE.ret,Vm [(4,.i .i64 zr)],[])) (λzr=>(XE.exit 0,Vm [],[])):=by
 rcases A,B with⟨⟨rfl⟩,⟨rfl⟩⟩
 rw[Vh];simp-dsimp only[↓QW,Zt,QX,func288,f288,Qbr,my,TP,TZ,seval];apply Q9 a2;intro a2;simp-dsimp+contextual only[↓QW,eZ,seval,Ta]
 try simp only[VG,eY]
 repeat rfl
def EY{C s D c}[A:QC CW C s][B:QD CW D c]:CP T (n+3) 288 [.imm 3 C,.clo 266 [.iptr 3 [D] 0 0]]=(XL s c).map λr=>.i .i64 r:=by
 rcases A,B with⟨⟨rfl⟩,⟨rfl⟩⟩
 rw[QU];simp-dsimp+contextual only[↓QW,eZ,seval,func288,f288,Qbr,my,D0]
 try simp only[XL,eY]
 repeat rfl
def D4{C s D c}[A:QC CW C s][B:QD CW D c]:CP T (n+4) 265 [.imm 3 C,.clo 266 [.iptr 3 [D] 0 0]]=(V3 s c).map λr=>.b r:=by
 rcases A,B with⟨⟨rfl⟩,⟨rfl⟩⟩
 rw[QU];simp-dsimp+contextual only[↓QW,eZ,seval,func265,f265,Qmo,sv,EY]
 try simp only[V3,eY]
 repeat rfl
def R0(a2 a3){C l D a}[A:QC CW C l][B:QC CW D a]:LP T (n+5) 226 4 (Vm [(0,.imm 3 C),(8,.imm 3 D),(9,.i .i64 a2),(10,.i .i64 a3)]) []=JR (run (BQ l a a2) a3) (λzr=>(XE.ret,Vm [(2,.b zr)],[])) (λzr=>(XE.exit 0,Vm [],[])):=by
 rcases A,B with⟨⟨rfl⟩,⟨rfl⟩⟩
 rw[Vh];simp-dsimp only[↓QW,Zt,QX,func226,f226,QbE,mV,TP,TZ,seval];apply Q9 a3;intro a3;simp-dsimp+contextual only[↓QW,eZ,seval,dl,D4]
 try simp only[BQ,eY]
 repeat rfl
def U3{B l}[A:QC CW B l]:CP T (n+6) 226 [.imm 3 B]=(Ih l).map λr=>.b r:=by
 obtain⟨rfl⟩:=A;rw[QU];simp-dsimp+contextual only[↓QW,eZ,seval,func226,f226,QbE,mV,R0]
 try simp only[Ih,eY]
 repeat rfl
def OV{B s}[A:QC CW B s]:CP T (n+1) 267 [.imm 3 B]=(Fa s).map λr=>.own 3 (r.map CW):=by
 obtain⟨rfl⟩:=A;rw[QU];simp-dsimp+contextual only[↓QW,eZ,seval,func267,f267,QjI,qb]
 try simp only[Fa,eY]
 all_goals first|rfl|(simp +contextual only[I1]<;>rfl)
def Uz(a):CP T (n+1) 290 [.i .i64 a]=(FM a).map λr=>.b r:=by
 rw[QU];simp-dsimp+contextual only[↓QW,eZ,seval,func290,f290,Qkq,vG]
 try simp only[FM,eY]
 repeat rfl
def P0(a a2):CP T (n+2) 270 [.i .i64 a,.i .i64 a2]=(F6 a a2).map λr=>.i .i64 r:=by
 rw[QU];simp-dsimp+contextual only[↓QW,eZ,seval,func270,f270,QlT,vF,Uz]
 try simp only[F6,eY]
 repeat rfl
def Oi{C a D b}[A:QD CW C a][B:QD CW D b]:CP T (n+3) 269 [.agg C,.agg D]=(Cm a b).map λr=>.i .i64 r:=by
 rcases A,B with⟨⟨rfl⟩,⟨rfl⟩⟩
 rw[QU];simp-dsimp+contextual only[↓QW,eZ,seval,func269,f269,Qne,tD,P0]
 try simp only[Cm,eY]
 repeat rfl
def An(a b i j){B d}[A:QC CW B d]:LP T (n+4) 304 4 (Vm [(0,.sl 0),(1,.i .i64 a),(2,.i .i64 b),(3,.clo 269 []),(8,.i .i64 i),(9,.i .i64 j)]) [some (.lst 3 B)]=(run (Vj a b i) (d,j)).map (λzr=>(XE.exit 2,Vm [(0,.sl 0),(1,.i .i64 a),(2,.i .i64 b),(3,.clo 269 []),(8,.i .i64 i)],[some (.lst 3 (zr.map CW))])):=by
 obtain⟨rfl⟩:=A;rw[Vh];simp-dsimp only[↓QW,Zt,QX,func304,f304,qC,eC,TP,TZ,seval];apply VF d j;intro d j;simp-dsimp+contextual only[↓QW,eZ,seval,Oi]
 try simp only[Vj,eY]
 repeat rfl
def Al(a b i){B d}[A:QC CW B d]:LP T (n+5) 304 1 (Vm [(0,.sl 0),(1,.i .i64 a),(2,.i .i64 b),(3,.clo 269 []),(8,.i .i64 i)]) [some (.lst 3 B)]=(run (Q8 a b) (d,i)).map (λzr=>(XE.exit 0,Vm [(0,.sl 0)],[some (.lst 3 (zr.map CW))])):=by
 obtain⟨rfl⟩:=A;rw[Vh];simp-dsimp only[↓QW,Zt,QX,func304,f304,qC,eC,TP,TZ,seval];apply VF d i;intro d i;simp-dsimp+contextual only[↓QW,eZ,seval,An]
 try simp only[Q8,eY]
 repeat rfl
def Jj(a b){B d}[A:QC CW B d]:CA T (n+6) 304 [some (.lst 3 B)] [.sl 0,.i .i64 a,.i .i64 b,.clo 269 []]=(Q5 d a b).map λr=>(.tup [],[some (.lst 3 (r.map CW))]):=by
 obtain⟨rfl⟩:=A;rw[HM];simp-dsimp+contextual only[↓QW,eZ,seval,func304,f304,qC,eC,Al]
 try simp only[Q5,eY]
 repeat rfl
end Go.Proofs.YtfhnbabcbhgffaaGreatDoor
