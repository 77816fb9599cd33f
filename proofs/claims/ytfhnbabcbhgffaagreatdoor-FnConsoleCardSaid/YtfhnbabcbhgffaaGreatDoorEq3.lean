import Derived.Test.YtfhnbabcbhgffaaGreatDoorEq2
set_option maxHeartbeats 4000000
set_option linter.unusedVariables false
set_option linter.unusedSimpArgs false
set_option linter.defProp false
set_option maxRecDepth 100000
namespace Go.Proofs.YtfhnbabcbhgffaaGreatDoor
open Go Go.Proofs Go.Proofs.YtfhnbabcbhgffaaGreatDoor.Am Tryz
variable(n:Nat)
def Pa(a2 a3){C o D a}[A:QC IW C o][B:QC Vn D a]:LP T (n+3) 125 5 (Vm [(3,.sl 0),(10,.imm 1 D),(11,.i .i64 a2),(12,.i .i64 a3)]) [some (.lst 1 C)]=(run (Be a a2) (o,a3)).map (λzr=>(XE.exit 0,Vm [(3,.sl 0)],[some (.lst 1 (zr.map IW))])):=by
 rcases A,B with⟨⟨rfl⟩,⟨rfl⟩⟩
 rw[Vh];simp-dsimp only[↓QW,Zt,QX,func125,f125,Qbv,mR,TP,TZ,seval];apply VF o a3;intro o a3;simp-dsimp+contextual only[↓QW,eZ,seval,JC]
 try simp only[Be,eY]
 repeat rfl
def Uk{B l}[A:QC Vn B l]:CP T (n+4) 125 [.imm 1 B]=(D9 l).map λr=>.s r:=by
 obtain⟨rfl⟩:=A;rw[QU];simp-dsimp+contextual only[↓QW,eZ,seval,func125,f125,Qbv,mR,EQ,Pa]
 try simp only[D9,eY]
 repeat rfl
def Um(a b):CP T (n+3) 126 [.i .i64 a,.i .i64 b]=(En a b).map λr=>.s r:=by
 rw[QU];simp-dsimp+contextual only[↓QW,eZ,seval,func126,f126,Qmh,uv,JC]
 try simp only[En,eY]
 repeat rfl
def PS{B r}[A:QD Ik B r]:CP T (n+5) 58 [.agg B]=(DQ r).map λr=>.s r:=by
 obtain⟨rfl⟩:=A;rw[QU];simp-dsimp+contextual only[↓QW,eZ,seval,func58,f58,Qr1,Qgp,Md,JC,Mm,Uk,Um,EQ]
 try simp only[DQ,eY]
 repeat rfl
def O6(s):CP T (n+6) 19 [.s s]=(Zp s).map λr=>.tup [.agg (Ni r.1),.b r.2]:=by
 rw[QU];simp-dsimp+contextual only[↓QW,eZ,Nat.reduceAdd,Nat.reduceMul,Nat.reduceBEq,Nat.reduceLeDiff,Nat.reduceLT,func19,f19,QqT,QcI,Gb,Ga,Te,Tt,OG,PS]
 try simp only[Zp,eY]
 repeat rfl
def IJ{B a}[A:QD ET B a]:CP T (n+2) 204 [.agg B]=(Ch a).map λr=>.b r:=by
 obtain⟨rfl⟩:=A;rw[QU];simp-dsimp+contextual only[↓QW,eZ,seval,func204,f204,Qhh,rj,Vl]
 try simp only[Ch,eY]
 repeat rfl
def Hu{B f}[A:QD Vx B f]:CP T (n+3) 130 [.agg B]=(AX f).map λr=>.b r:=by
 obtain⟨rfl⟩:=A;rw[QU];simp-dsimp+contextual only[↓QW,eZ,seval,func130,f130,QjC,sZ,IJ,Vl]
 try simp only[AX,eY]
 repeat rfl
def O9(a2 a3){C l D a}[A:QC Vx C l][B:QC Vx D a]:LP T (n+4) 64 4 (Vm [(0,.imm 8 C),(8,.imm 8 D),(9,.i .i64 a2),(10,.i .i64 a3)]) []=JR (run (Bf l a a2) a3) (λzr=>(XE.ret,Vm [(2,.b zr)],[])) (λzr=>(XE.exit 0,Vm [],[])):=by
 rcases A,B with⟨⟨rfl⟩,⟨rfl⟩⟩
 rw[Vh];simp-dsimp only[↓QW,Zt,QX,func64,f64,Qje,zD,TP,TZ,seval];apply Q9 a3;intro a3;simp-dsimp+contextual only[↓QW,eZ,seval,Hu]
 try simp only[Bf,eY]
 repeat rfl
def HS{B l}[A:QC Vx B l]:CP T (n+5) 64 [.imm 8 B]=(Bb l).map λr=>.b r:=by
 obtain⟨rfl⟩:=A;rw[QU];simp-dsimp+contextual only[↓QW,eZ,seval,func64,f64,Qje,zD,O9]
 try simp only[Bb,eY]
 repeat rfl
def Mu(v a a2){B s}[A:QC Vn B s]:LP T (n+1) 274 2 (Vm [(0,.imm 1 B),(1,.i .i64 v),(7,.i .i64 a),(8,.i .i64 a2)]) []=JR (run (ZJ s v a) a2) (λzr=>(XE.ret,Vm [(4,.i .i64 zr)],[])) (λzr=>(XE.exit 0,Vm [],[])):=by
 obtain⟨rfl⟩:=A;rw[Vh];simp-dsimp only[↓QW,Zt,QX,func274,f274,Qa4,kF,TP,TZ,seval];apply Q9 a2;intro a2;simp-dsimp+contextual only[↓QW,eZ,seval]
 try simp only[ZJ,eY]
 repeat rfl
def Pn(v){B s}[A:QC Vn B s]:CP T (n+2) 274 [.imm 1 B,.i .i64 v]=(FA s v).map λr=>.i .i64 r:=by
 obtain⟨rfl⟩:=A;rw[QU];simp-dsimp+contextual only[↓QW,eZ,seval,func274,f274,Qa4,kF,Mu]
 try simp only[FA,eY]
 repeat rfl
def Er(v){B s}[A:QC Vn B s]:CP T (n+3) 237 [.imm 1 B,.i .i64 v]=(JL s v).map λr=>.b r:=by
 obtain⟨rfl⟩:=A;rw[QU];simp-dsimp+contextual only[↓QW,eZ,seval,func237,f237,QkJ,qN,Pn]
 try simp only[JL,eY]
 repeat rfl
def aJ(a){B l}[A:QC Vn B l]:CP T (n+4) 205 [.imm 1 B,.i .i64 a]=(Gv l a).map λr=>.b r:=by
 obtain⟨rfl⟩:=A;rw[QU];simp-dsimp+contextual only[↓QW,eZ,seval,func205,f205,QkR,th,Er]
 try simp only[Gv,eY]
 repeat rfl
def ar{C r D f}[A:QD Ik C r][B:QD Vx D f]:CP T (n+5) 131 [.agg C,.agg D]=(HB r f).map λr=>.s r:=by
 rcases A,B with⟨⟨rfl⟩,⟨rfl⟩⟩
 rw[QU];simp-dsimp+contextual only[↓QW,eZ,seval,func131,f131,QmN,vS,Md,Hu,aJ,Vl]
 try simp only[HB,eY]
 repeat rfl
def cW{C r D f}[A:QD Ik C r][B:QD Vx D f]:CP T (n+6) 65 [.agg C,.agg D]=(Cu r f).map λr=>.b r:=by
 rcases A,B with⟨⟨rfl⟩,⟨rfl⟩⟩
 rw[QU];simp-dsimp+contextual only[↓QW,eZ,seval,func65,f65,Qry,Qgz,ar]
 try simp only[Cu,eY]
 repeat rfl
def NC(a2 a3){D r E o F a}[A:QD Ik D r][B:QC Vn E o][C:QC Vx F a]:LP T (n+7) 22 5 (Vm [(2,.ptr 0 0 0),(5,.sl 1),(13,.imm 8 F),(14,.i .i64 a2),(15,.i .i64 a3)]) [some (.box D),some (.lst 1 E)]=(run (ZV r a a2) (o,a3)).map (λzr=>(XE.exit 0,Vm [(5,.sl 0)],[some (.lst 1 (zr.map Vn))])):=by
 rcases A,B,C with⟨⟨rfl⟩,⟨rfl⟩,⟨rfl⟩⟩
 rw[Vh];simp-dsimp only[↓QW,Zt,QX,func22,f22,Qld,yV,TP,TZ,seval];apply VF o a3;intro o a3;simp-dsimp+contextual only[↓QW,eZ,seval,cW]
 try simp only[ZV,eY]
 repeat rfl
def P6{C r D l}[A:QD Ik C r][B:QC Vx D l]:CP T (n+8) 22 [.agg C,.imm 8 D]=(BS r l).map λr=>.own 1 (r.map Vn):=by
 rcases A,B with⟨⟨rfl⟩,⟨rfl⟩⟩
 rw[QU];simp-dsimp+contextual only[↓QW,eZ,seval,func22,f22,Qld,yV,HS,NC]
 try simp only[BS,eY]
 all_goals first|rfl|(simp +contextual only[I1]<;>rfl)
def Kw{B l}[A:QC IW B l]:CP T (n+2) 63 [.imm 1 B]=(E6 l).map λr=>.s r:=by
 obtain⟨rfl⟩:=A;rw[QU];simp-dsimp+contextual only[↓QW,eZ,seval,func63,f63,Qs5,Qd3,EQ]
 try simp only[E6,eY]
 repeat rfl
def Lo(a2 a3){C o D a}[A:QC IW C o][B:QC Vn D a]:LP T (n+3) 21 3 (Vm [(3,.sl 0),(7,.imm 1 D),(8,.i .i64 a2),(9,.i .i64 a3)]) [some (.lst 1 C)]=(run (JS a a2) (o,a3)).map (λzr=>(XE.exit 0,Vm [(3,.sl 0)],[some (.lst 1 (zr.map IW))])):=by
 rcases A,B with⟨⟨rfl⟩,⟨rfl⟩⟩
 rw[Vh];simp-dsimp only[↓QW,Zt,QX,func21,f21,Qmi,y7,TP,TZ,seval];apply VF o a3;intro o a3;simp-dsimp+contextual only[↓QW,eZ,seval,JC]
 try simp only[JS,eY]
 repeat rfl
def EP{B l}[A:QC Vn B l]:CP T (n+4) 21 [.imm 1 B]=(Jt l).map λr=>.s r:=by
 obtain⟨rfl⟩:=A;rw[QU];simp-dsimp+contextual only[↓QW,eZ,seval,func21,f21,Qmi,y7,Kw,Lo]
 try simp only[Jt,eY]
 repeat rfl
def N5(a2 a3){D w E o F a}[A:QC IW D w][B:QC Vn E o][C:QC IW F a]:LP T (n+5) 23 3 (Vm [(0,.imm 1 D),(4,.sl 0),(11,.imm 1 F),(12,.i .i64 a2),(13,.i .i64 a3)]) [some (.lst 1 E)]=JR (run (Xw w a a2) (o,a3)) (λzr=>(XE.ret,Vm [(2,.sl 0),(3,.b zr.2)],[some (.lst 1 (zr.1.map Vn))])) (λzr=>(XE.exit 0,Vm [(4,.sl 0)],[some (.lst 1 (zr.map Vn))])):=by
 rcases A,B,C with⟨⟨rfl⟩,⟨rfl⟩,⟨rfl⟩⟩
 rw[Vh];simp-dsimp only[↓QW,Zt,QX,func23,f23,Qi6,Qar,TP,TZ,Nat.reduceAdd,Nat.reduceMul,Nat.reduceBEq,Nat.reduceLeDiff,Nat.reduceLT];apply VF o a3;intro o a3;simp-dsimp+contextual only[↓QW,eZ,Nat.reduceAdd,Nat.reduceMul,Nat.reduceBEq,Nat.reduceLeDiff,Nat.reduceLT,Ga,OG]
 try simp only[Xw,eY]
 repeat rfl
def SY{B w}[A:QC IW B w]:CP T (n+6) 23 [.imm 1 B]=(Ad w).map λr=>.tup [.own 1 (r.1.map Vn),.b r.2]:=by
 obtain⟨rfl⟩:=A;rw[QU];simp-dsimp+contextual only[↓QW,eZ,seval,func23,f23,Qi6,Qar,N5]
 try simp only[Ad,eY]
 all_goals first|rfl|(simp +contextual only[I1]<;>rfl)
def Ia:CP T (n+1) 9 []=(impl_ExampleSlots).map λr=>.own 3 (r.map VL):=by
 rw[QU];simp-dsimp+contextual only[↓QW,eZ,seval,func9,f9,Aa9,An9]
 try simp only[impl_ExampleSlots,eY]
 all_goals first|rfl|(simp +contextual only[I1]<;>rfl)
def Pz(a2 a3){C l D a}[A:QC X6 C l][B:QC X6 D a]:LP T (n+2) 223 4 (Vm [(0,.imm 2 C),(8,.imm 2 D),(9,.i .i64 a2),(10,.i .i64 a3)]) []=JR (run (Bo l a a2) a3) (λzr=>(XE.ret,Vm [(2,.b zr)],[])) (λzr=>(XE.exit 0,Vm [],[])):=by
 rcases A,B with⟨⟨rfl⟩,⟨rfl⟩⟩
 rw[Vh];simp-dsimp only[↓QW,Zt,QX,func223,f223,Qba,kK,TP,TZ,seval];apply Q9 a3;intro a3;simp-dsimp+contextual only[↓QW,eZ,seval,Vl]
 try simp only[Bo,eY]
 repeat rfl
def HQ{B l}[A:QC X6 B l]:CP T (n+3) 223 [.imm 2 B]=(Cw l).map λr=>.b r:=by
 obtain⟨rfl⟩:=A;rw[QU];simp-dsimp+contextual only[↓QW,eZ,seval,func223,f223,Qba,kK,Pz]
 try simp only[Cw,eY]
 repeat rfl
def Nd(a2 a3){C l D a}[A:QC V2 C l][B:QC V2 D a]:LP T (n+4) 206 4 (Vm [(0,.imm 3 C),(8,.imm 3 D),(9,.i .i64 a2),(10,.i .i64 a3)]) []=JR (run (ZY l a a2) a3) (λzr=>(XE.ret,Vm [(2,.b zr)],[])) (λzr=>(XE.exit 0,Vm [],[])):=by
 rcases A,B with⟨⟨rfl⟩,⟨rfl⟩⟩
 rw[Vh];simp-dsimp only[↓QW,Zt,QX,func206,f206,Qbw,mi,TP,TZ,seval];apply Q9 a3;intro a3;simp-dsimp+contextual only[↓QW,eZ,seval,Vl,HQ]
 try simp only[ZY,eY]
 repeat rfl
def Kg{B l}[A:QC V2 B l]:CP T (n+5) 206 [.imm 3 B]=(AG l).map λr=>.b r:=by
 obtain⟨rfl⟩:=A;rw[QU];simp-dsimp+contextual only[↓QW,eZ,seval,func206,f206,Qbw,mi,Nd]
 try simp only[AG,eY]
 repeat rfl
def RD(c){B a}[A:QD VL B a]:CP T (n+1) 170 [.agg B,.iptr 1 [[.i .i64 c]] 0 0]=(Gf a c).map λr=>.b r:=by
 obtain⟨rfl⟩:=A;rw[QU];simp-dsimp+contextual only[↓QW,eZ,seval,func170,f170,Qk8,t6]
 try simp only[Gf,eY]
 repeat rfl
def Dj(f a a2){B s}[A:QC VL B s]:LP T (n+2) 169 2 (Vm [(0,.imm 3 B),(1,.clo 170 [.iptr 1 [[.i .i64 f]] 0 0]),(7,.i .i64 a),(8,.i .i64 a2)]) []=JR (run (VB s f a) a2) (λzr=>(XE.ret,Vm [(4,.i .i64 zr)],[])) (λzr=>(XE.exit 0,Vm [],[])):=by
 obtain⟨rfl⟩:=A;rw[Vh];simp-dsimp only[↓QW,Zt,QX,func169,f169,QaW,kf,TP,TZ,seval];apply Q9 a2;intro a2;simp-dsimp+contextual only[↓QW,eZ,seval,RD]
 try simp only[VB,eY]
 repeat rfl
def Ew(c){B s}[A:QC VL B s]:CP T (n+3) 169 [.imm 3 B,.clo 170 [.iptr 1 [[.i .i64 c]] 0 0]]=(Xz s c).map λr=>.i .i64 r:=by
 obtain⟨rfl⟩:=A;rw[QU];simp-dsimp+contextual only[↓QW,eZ,seval,func169,f169,QaW,kf,Dj]
 try simp only[Xz,eY]
 repeat rfl
def AD(a){B l}[A:QC VL B l]:CP T (n+4) 92 [.imm 3 B,.i .i64 a]=(JA l a).map λr=>.i .i64 r:=by
 obtain⟨rfl⟩:=A;rw[QU];simp-dsimp+contextual only[↓QW,eZ,seval,func92,f92,QsZ,Qfc,Ew]
 try simp only[JA,eY]
 repeat rfl
def aH(a){B l}[A:QC VL B l]:CP T (n+5) 34 [.imm 3 B,.i .i64 a]=(Gs l a).map λr=>.i .i64 r:=by
 obtain⟨rfl⟩:=A;rw[QU];simp-dsimp+contextual only[↓QW,eZ,seval,func34,f34,QqB,Qfv,AD]
 try simp only[Gs,eY]
 repeat rfl
def PD(a2 a3){C l D a}[A:QC VL C l][B:QC VL D a]:LP T (n+6) 8 4 (Vm [(0,.imm 3 C),(8,.imm 3 D),(9,.i .i64 a2),(10,.i .i64 a3)]) []=JR (run (Bn l a a2) a3) (λzr=>(XE.ret,Vm [(2,.b zr)],[])) (λzr=>(XE.exit 0,Vm [],[])):=by
 rcases A,B with⟨⟨rfl⟩,⟨rfl⟩⟩
 rw[Vh];simp-dsimp only[↓QW,Zt,QX,func8,f8,Aa8,An8,TP,TZ,seval];apply Q9 a3;intro a3;simp-dsimp+contextual only[↓QW,eZ,seval,Vl,aH]
 try simp only[Bn,eY]
 repeat rfl
def Gc{B l}[A:QC VL B l]:CP T (n+7) 8 [.imm 3 B]=(JX l).map λr=>.b r:=by
 obtain⟨rfl⟩:=A;rw[QU];simp-dsimp+contextual only[↓QW,eZ,seval,func8,f8,Aa8,An8,PD]
 try simp only[JX,eY]
 repeat rfl
def OD(a3 a4 a6 a7){E l F a G a2 H a5}[A:QC Q1 E l][B:QD Q1 F a][C:QC Q1 G a2][D:QC Q1 H a5]:LP T (n+1) 207 9 (Vm [(0,.imm 5 E),(4,.ptr 0 0 0),(10,.imm 5 G),(11,.i .i64 a3),(12,.i .i64 a4),(62,.imm 5 H),(63,.i .i64 a6),(64,.i .i64 a7)]) [some (.box F)]=JR (run (ZB l a a2 a3 a4 a5 a6) a7) (λzr=>(XE.ret,Vm [(2,.b zr)],[])) (λzr=>(XE.exit 2,Vm [(0,.imm 5 (l.map Q1)),(10,.imm 5 (a2.map Q1)),(11,.i .i64 a3),(12,.i .i64 a4)],[])):=by
 rcases A,B,C,D with⟨⟨rfl⟩,⟨rfl⟩,⟨rfl⟩,⟨rfl⟩⟩
 rw[Vh];simp-dsimp only[↓QW,Zt,QX,func207,f207,sN,fV,TP,TZ,seval];apply Q9 a7;intro a7;simp-dsimp+contextual only[↓QW,eZ,seval]
 try simp only[ZB,eY]
 repeat rfl
def OA(a2 a3){C l D a}[A:QC Q1 C l][B:QC Q1 D a]:LP T (n+2) 207 4 (Vm [(0,.imm 5 C),(10,.imm 5 D),(11,.i .i64 a2),(12,.i .i64 a3)]) []=JR (run (Ax l a a2) a3) (λzr=>(XE.ret,Vm [(2,.b zr)],[])) (λzr=>(XE.exit 0,Vm [],[])):=by
 rcases A,B with⟨⟨rfl⟩,⟨rfl⟩⟩
 rw[Vh];simp-dsimp only[↓QW,Zt,QX,func207,f207,sN,fV,TP,TZ,seval];apply Q9 a3;intro a3;simp-dsimp+contextual only[↓QW,eZ,seval,Vl,OD]
 try simp only[Ax,eY]
 repeat rfl
def Hp{B l}[A:QC Q1 B l]:CP T (n+3) 207 [.imm 5 B]=(JT l).map λr=>.b r:=by
 obtain⟨rfl⟩:=A;rw[QU];simp-dsimp+contextual only[↓QW,eZ,seval,func207,f207,sN,fV,OA]
 try simp only[JT,eY]
 repeat rfl
def j8(p q):CP T (n+2) 291 [.i .i64 p,.i .i64 q]=(G7 p q).map λr=>.i .i64 r:=by
 rw[QU];simp-dsimp+contextual only[↓QW,eZ,seval,func291,f291,QiK,vv,Vl]
 try simp only[G7,eY]
 repeat rfl
def ek(a v):CP T (n+3) 271 [.i .i64 a,.i .i64 v]=(NP a v).map λr=>.i .i64 r:=by
 rw[QU];simp-dsimp+contextual only[↓QW,eZ,seval,func271,f271,QmA,uj,j8]
 try simp only[NP,eY]
 repeat rfl
def Wl(a a3 a4){B a2}[A:QC Vn B a2]:LP T (n+4) 231 3 (Vm [(3,.i .i64 a),(6,.imm 1 B),(7,.i .i64 a3),(8,.i .i64 a4)]) []=(run (G0 a2 a3) (a,a4)).map (λzr=>(XE.exit 0,Vm [(3,.i .i64 zr)],[])):=by
 obtain⟨rfl⟩:=A;rw[Vh];simp-dsimp only[↓QW,Zt,QX,func231,f231,Qbf,lS,TP,TZ,seval];apply VF a a4;intro a a4;simp-dsimp+contextual only[↓QW,eZ,seval,ek]
 try simp only[G0,eY]
 repeat rfl
def TR{B v}[A:QC Vn B v]:CP T (n+5) 231 [.imm 1 B]=(Hd v).map λr=>.i .i64 r:=by
 obtain⟨rfl⟩:=A;rw[QU];simp-dsimp+contextual only[↓QW,eZ,seval,func231,f231,Qbf,lS,Wl]
 try simp only[Hd,eY]
 repeat rfl
def Me(b){B a}[A:QD V0 B a]:CP T (n+6) 215 [.i .i64 b,.agg B]=(Z8 b a).map λr=>.i .i64 r:=by
 obtain⟨rfl⟩:=A;rw[QU];simp-dsimp+contextual only[↓QW,eZ,seval,func215,f215,Qiu,tE,TR]
 try simp only[Z8,eY]
 repeat rfl
def Pw(a i){B l}[A:QC V0 B l]:LP T (n+1) 236 2 (Vm [(0,.imm 5 B),(1,.i .i64 a),(5,.i .i64 i)]) []=JR (run (CQ l a) i) (λzr=>(XE.ret,Vm [(4,.i .i64 zr)],[])) (λzr=>(XE.exit 0,Vm [],[])):=by
 obtain⟨rfl⟩:=A;rw[Vh];simp-dsimp only[↓QW,Zt,QX,func236,f236,QbW,kz,TP,TZ,seval];apply Q9 i;intro i;simp-dsimp+contextual only[↓QW,eZ,seval]
 try simp only[CQ,eY]
 repeat rfl
def HW(a){B l}[A:QC V0 B l]:CP T (n+2) 236 [.imm 5 B,.i .i64 a]=(AY l a).map λr=>.i .i64 r:=by
 obtain⟨rfl⟩:=A;rw[QU];simp-dsimp+contextual only[↓QW,eZ,seval,func236,f236,QbW,kz,Pw]
 try simp only[AY,eY]
 repeat rfl
def P9(b a2 a3){C l D a}[A:QC V0 C l][B:QC V0 D a]:LP T (n+7) 208 5 (Vm [(0,.imm 5 C),(3,.i .i64 b),(10,.imm 5 D),(11,.i .i64 a2),(12,.i .i64 a3)]) []=JR (run (AH l a a2) (b,a3)) (λzr=>(XE.ret,Vm [(2,.b zr)],[])) (λzr=>(XE.exit 0,Vm [],[])):=by
 rcases A,B with⟨⟨rfl⟩,⟨rfl⟩⟩
 rw[Vh];simp-dsimp only[↓QW,Zt,QX,func208,f208,QbC,kU,TP,TZ,seval];apply VF b a3;intro b a3;simp-dsimp+contextual only[↓QW,eZ,seval,Vl,Me,HW]
 try simp only[AH,eY]
 repeat rfl
def IG{B l}[A:QC V0 B l]:CP T (n+8) 208 [.imm 5 B]=(Jk l).map λr=>.b r:=by
 obtain⟨rfl⟩:=A;rw[QU];simp-dsimp+contextual only[↓QW,eZ,seval,func208,f208,QbC,kU,P9]
 try simp only[Jk,eY]
 repeat rfl
def MI(a2 a3){C l D a}[A:QC VX C l][B:QC VX D a]:LP T (n+2) 162 4 (Vm [(0,.imm 4 C),(8,.imm 4 D),(9,.i .i64 a2),(10,.i .i64 a3)]) []=JR (run (ZX l a a2) a3) (λzr=>(XE.ret,Vm [(2,.b zr)],[])) (λzr=>(XE.exit 0,Vm [],[])):=by
 rcases A,B with⟨⟨rfl⟩,⟨rfl⟩⟩
 rw[Vh];simp-dsimp only[↓QW,Zt,QX,func162,f162,QaT,l7,TP,TZ,seval];apply Q9 a3;intro a3;simp-dsimp+contextual only[↓QW,eZ,seval,Vl]
 try simp only[ZX,eY]
 repeat rfl
def EF{B l}[A:QC VX B l]:CP T (n+3) 162 [.imm 4 B]=(J5 l).map λr=>.b r:=by
 obtain⟨rfl⟩:=A;rw[QU];simp-dsimp+contextual only[↓QW,eZ,seval,func162,f162,QaT,l7,MI]
 try simp only[J5,eY]
 repeat rfl
def Sx(a a3 a4){D l E o F a2}[A:QC V0 D l][B:QC Vn E o][C:QC V0 F a2]:LP T (n+3) 235 5 (Vm [(0,.imm 5 D),(1,.i .i64 a),(5,.sl 0),(13,.imm 5 F),(14,.i .i64 a3),(15,.i .i64 a4)]) [some (.lst 1 E)]=(run (BU l a a2 a3) (o,a4)).map (λzr=>(XE.exit 0,Vm [(5,.sl 0)],[some (.lst 1 (zr.map Vn))])):=by
 rcases A,B,C with⟨⟨rfl⟩,⟨rfl⟩,⟨rfl⟩⟩
 rw[Vh];simp-dsimp only[↓QW,Zt,QX,func235,f235,QaH,k9,TP,TZ,seval];apply VF o a4;intro o a4;simp-dsimp+contextual only[↓QW,eZ,seval,It,HW]
 try simp only[BU,eY]
 repeat rfl
def Nw(a){B l}[A:QC V0 B l]:CP T (n+9) 235 [.imm 5 B,.i .i64 a]=(Du l a).map λr=>.own 1 (r.map Vn):=by
 obtain⟨rfl⟩:=A;rw[QU];simp-dsimp+contextual only[↓QW,eZ,seval,func235,f235,QaH,k9,It,IG,Sx]
 try simp only[Du,eY]
 all_goals first|rfl|(simp +contextual only[I1]<;>rfl)
def OZ(c){B f}[A:QD Vx B f]:CP T (n+1) 158 [.agg B,.iptr 1 [[.i .i64 c]] 0 0]=(Fo f c).map λr=>.b r:=by
 obtain⟨rfl⟩:=A;rw[QU];simp-dsimp+contextual only[↓QW,eZ,seval,func158,f158,QhK,pR]
 try simp only[Fo,eY]
 repeat rfl
def CY(f a a2){B s}[A:QC Vx B s]:LP T (n+2) 157 2 (Vm [(0,.imm 8 B),(1,.clo 158 [.iptr 1 [[.i .i64 f]] 0 0]),(7,.i .i64 a),(8,.i .i64 a2)]) []=JR (run (Vu s f a) a2) (λzr=>(XE.ret,Vm [(4,.i .i64 zr)],[])) (λzr=>(XE.exit 0,Vm [],[])):=by
 obtain⟨rfl⟩:=A;rw[Vh];simp-dsimp only[↓QW,Zt,QX,func157,f157,Qbk,lB,TP,TZ,seval];apply Q9 a2;intro a2;simp-dsimp+contextual only[↓QW,eZ,seval,OZ]
 try simp only[Vu,eY]
 repeat rfl
def DS(c){B s}[A:QC Vx B s]:CP T (n+3) 157 [.imm 8 B,.clo 158 [.iptr 1 [[.i .i64 c]] 0 0]]=(Xr s c).map λr=>.i .i64 r:=by
 obtain⟨rfl⟩:=A;rw[QU];simp-dsimp+contextual only[↓QW,eZ,seval,func157,f157,Qbk,lB,CY]
 try simp only[Xr,eY]
 repeat rfl
def Zq(i){B l}[A:QC Vx B l]:CP T (n+4) 79 [.imm 8 B,.i .i64 i]=(XS l i).map λr=>.i .i64 r:=by
 obtain⟨rfl⟩:=A;rw[QU];simp-dsimp+contextual only[↓QW,eZ,seval,func79,f79,Qqf,Qeg,DS]
 try simp only[XS,eY]
 repeat rfl
def RH(a3 a4){D a E i F a2}[A:QD Vo D a][B:QC Vn E i][C:QC Vx F a2]:LP T (n+5) 209 5 (Vm [(1,.ptr 0 0 0),(3,.sl 1),(23,.imm 8 F),(24,.i .i64 a3),(25,.i .i64 a4)]) [some (.box D),some (.lst 1 E)]=JR (run (ZP a i a2 a3) a4) (λzr=>(XE.ret,Vm [(2,.b zr)],[])) (λzr=>(XE.exit 0,Vm [(1,.ptr 0 0 0),(3,.sl 1)],[some (.box (Vo a)),some (.lst 1 (i.map Vn))])):=by
 rcases A,B,C with⟨⟨rfl⟩,⟨rfl⟩,⟨rfl⟩⟩
 rw[Vh];simp-dsimp only[↓QW,Zt,QX,func209,f209,kw,aY,TP,TZ,seval];apply Q9 a4;intro a4;simp-dsimp+contextual(maxSteps:=1000000)only[↓QW,eZ,seval,AD,Er]
 try simp only[ZP,eY]
 repeat rfl
def PB(a3 a4){D a E i F a2}[A:QD Vo D a][B:QC Vn E i][C:QC VL F a2]:LP T (n+5) 209 11 (Vm [(1,.ptr 0 0 0),(3,.sl 1),(57,.imm 3 F),(58,.i .i64 a3),(59,.i .i64 a4)]) [some (.box D),some (.lst 1 E)]=JR (run (JF a i a2 a3) a4) (λzr=>(XE.ret,Vm [(2,.b zr)],[])) (λzr=>(XE.exit 2,Vm [(1,.ptr 0 0 0),(3,.sl 1)],[some (.box (Vo a)),some (.lst 1 (i.map Vn))])):=by
 rcases A,B,C with⟨⟨rfl⟩,⟨rfl⟩,⟨rfl⟩⟩
 rw[Vh];simp-dsimp only[↓QW,Zt,QX,func209,f209,kw,aY,TP,TZ,seval];apply Q9 a4;intro a4;simp-dsimp+contextual(maxSteps:=1000000)only[↓QW,eZ,seval,Zq]
 try simp only[JF,eY]
 repeat rfl
def OU(a3 a4){C a D a2}[A:QD Vo C a][B:QC Vn D a2]:LP T (n+5) 209 17 (Vm [(1,.ptr 0 0 0),(75,.sl 1),(76,.i .i64 a3),(77,.i .i64 a4)]) [some (.box C),some (.lst 1 D)]=JR (run (Bg a a2 a3) a4) (λzr=>(XE.ret,Vm [(2,.b zr)],[])) (λzr=>(XE.exit 4,Vm [],[])):=by
 rcases A,B with⟨⟨rfl⟩,⟨rfl⟩⟩
 rw[Vh];simp-dsimp only[↓QW,Zt,QX,func209,f209,kw,aY,TP,TZ,seval];apply Q9 a4;intro a4;simp-dsimp+contextual(maxSteps:=1000000)only[↓QW,eZ,seval,Zq]
 try simp only[Bg,eY]
 repeat rfl
def WK{B a}[A:QD Vo B a]:CP T (n+10) 209 [.agg B]=(AQ a).map λr=>.b r:=by
 obtain⟨rfl⟩:=A;rw[QU];simp-dsimp+contextual(maxSteps:=1000000)only[↓QW,eZ,seval,func209,f209,kw,aY,Nw,RH,PB,OU]
 try simp only[AQ,eY]
 repeat rfl
def MV{B a}[A:QD VH B a]:CP T (n+2) 222 [.agg B]=(Fp a).map λr=>.b r:=by
 obtain⟨rfl⟩:=A;rw[QU];simp-dsimp+contextual only[↓QW,eZ,seval,func222,f222,QkS,rQ,Vl]
 try simp only[Fp,eY]
 repeat rfl
def PW(c){B a}[A:QD V2 B a]:CP T (n+1) 233 [.agg B,.iptr 1 [[.i .i64 c]] 0 0]=(DW a c).map λr=>.b r:=by
 obtain⟨rfl⟩:=A;rw[QU];simp-dsimp+contextual only[↓QW,eZ,seval,func233,f233,Ql0,ta]
 try simp only[DW,eY]
 repeat rfl
def Cz(f a a2){B s}[A:QC V2 B s]:LP T (n+2) 232 2 (Vm [(0,.imm 3 B),(1,.clo 233 [.iptr 1 [[.i .i64 f]] 0 0]),(7,.i .i64 a),(8,.i .i64 a2)]) []=JR (run (Q7 s f a) a2) (λzr=>(XE.ret,Vm [(4,.i .i64 zr)],[])) (λzr=>(XE.exit 0,Vm [],[])):=by
 obtain⟨rfl⟩:=A;rw[Vh];simp-dsimp only[↓QW,Zt,QX,func232,f232,Qb2,lA,TP,TZ,seval];apply Q9 a2;intro a2;simp-dsimp+contextual only[↓QW,eZ,seval,PW]
 try simp only[Q7,eY]
 repeat rfl
def Dr(c){B s}[A:QC V2 B s]:CP T (n+3) 232 [.imm 3 B,.clo 233 [.iptr 1 [[.i .i64 c]] 0 0]]=(VV s c).map λr=>.i .i64 r:=by
 obtain⟨rfl⟩:=A;rw[QU];simp-dsimp+contextual only[↓QW,eZ,seval,func232,f232,Qb2,lA,Cz]
 try simp only[VV,eY]
 repeat rfl
def Mo(a){B l}[A:QC V2 B l]:CP T (n+4) 154 [.imm 3 B,.i .i64 a]=(Bc l a).map λr=>.i .i64 r:=by
 obtain⟨rfl⟩:=A;rw[QU];simp-dsimp+contextual only[↓QW,eZ,seval,func154,f154,QnF,uK,Dr]
 try simp only[Bc,eY]
 repeat rfl
def IM(a){B l}[A:QC V2 B l]:CP T (n+5) 77 [.imm 3 B,.i .i64 a]=(B6 l a).map λr=>.own 2 (r.map X6):=by
 obtain⟨rfl⟩:=A;rw[QU];simp-dsimp+contextual only[↓QW,eZ,seval,func77,f77,QsD,Qgg,Mo,FJ]
 try simp only[B6,eY]
 all_goals first|rfl|(simp +contextual only[I1]<;>rfl)
def Ye{B l}[A:QC X6 B l]:CP T (n+1) 224 [.imm 2 B]=(FD l).map λr=>.i .i64 r:=by
 obtain⟨rfl⟩:=A;rw[QU];simp-dsimp+contextual only[↓QW,eZ,seval,func224,f224,QlI,qp]
 try simp only[FD,eY]
 repeat rfl
def GQ{C l D a}[A:QC X6 C l][B:QD VH D a]:CP T (n+4) 141 [.imm 2 C,.agg D]=(AE l a).map λr=>.i .i64 r:=by
 rcases A,B with⟨⟨rfl⟩,⟨rfl⟩⟩
 rw[QU];simp-dsimp+contextual only[↓QW,eZ,seval,func141,f141,Qg3,tj,MV,HQ,Ye]
 try simp only[AE,eY]
 repeat rfl
def aA(s):CP T (n+1) 255 [.i .i64 s]=(Gp s).map λr=>.i .i64 r:=by
 rw[QU];simp-dsimp+contextual only[↓QW,eZ,seval,func255,f255,Qmk,sQ]
 try simp only[Gp,eY]
 repeat rfl
def Ol(a3 a4){C a D a2}[A:QD Vo C a][B:QC Q1 D a2]:LP T (n+6) 210 4 (Vm [(1,.ptr 0 0 0),(14,.imm 5 D),(15,.i .i64 a3),(16,.i .i64 a4)]) [some (.box C)]=JR (run (Xa a a2 a3) a4) (λzr=>(XE.ret,Vm [(2,.b zr)],[])) (λzr=>(XE.exit 0,Vm [],[])):=by
 rcases A,B with⟨⟨rfl⟩,⟨rfl⟩⟩
 rw[Vh];simp-dsimp only[↓QW,Zt,QX,func210,f210,QaK,kS,TP,TZ,seval];apply Q9 a4;intro a4;simp-dsimp+contextual(maxSteps:=1000000)only[↓QW,eZ,seval,Zq,MV,IM,GQ,aA]
 try simp only[Xa,eY]
 repeat rfl
def SD{B a}[A:QD Vo B a]:CP T (n+7) 210 [.agg B]=(Jv a).map λr=>.b r:=by
 obtain⟨rfl⟩:=A;rw[QU];simp-dsimp+contextual(maxSteps:=1000000)only[↓QW,eZ,seval,func210,f210,QaK,kS,Ol]
 try simp only[Jv,eY]
 repeat rfl
def Tk(a2 a4 a5){C a D a3}[A:QD Vo C a][B:QC Vx D a3]:LP T (n+1) 211 3 (Vm [(1,.ptr 0 0 0),(3,.i .i64 a2),(13,.imm 8 D),(14,.i .i64 a4),(15,.i .i64 a5)]) [some (.box C)]=(run (C9 a a3 a4) (a2,a5)).map (λzr=>(XE.exit 0,Vm [(1,.ptr 0 0 0),(3,.i .i64 zr)],[some (.box (Vo a))])):=by
 rcases A,B with⟨⟨rfl⟩,⟨rfl⟩⟩
 rw[Vh];simp-dsimp only[↓QW,Zt,QX,func211,f211,ib,W0,TP,TZ,seval];apply VF a2 a5;intro a2 a5;simp-dsimp+contextual(maxSteps:=1000000)only[↓QW,eZ,seval]
 try simp only[C9,eY]
 repeat rfl
end Go.Proofs.YtfhnbabcbhgffaaGreatDoor
