import Derived.Test.YtkgadcbajihilaaGreatDoorEc
set_option maxHeartbeats 4000000
set_option linter.unusedVariables false
set_option linter.unusedSimpArgs false
set_option linter.defProp false
set_option maxRecDepth 100000
namespace Go.Proofs.YtkgadcbajihilaaGreatDoor
open Go Go.Proofs Go.Proofs.YtkgadcbajihilaaGreatDoor.Am Tryz
variable(n:Nat)
def dm(l){B a}[A:QC Vn B a]:CP T (n+1) 11 [.imm 8 B,.i .i64 l]=(Hm a l).map λr=>.i .i64 r:=by
 obtain⟨rfl⟩:=A;rw[QM];simp-dsimp+contextual only[↓QW,eZ,seval,func11,f11,Qwd,Qk9]
 try simp only[Hm,eY]
 repeat rfl
def cX(l){B a}[A:QC Xb B a]:CP T (n+1) 166 [.imm 2 B,.i .i64 l]=(HJ a l).map λr=>.i .i64 r:=by
 obtain⟨rfl⟩:=A;rw[QM];simp-dsimp+contextual only[↓QW,eZ,seval,func166,f166,Qlg,zd]
 try simp only[HJ,eY]
 repeat rfl
def Yq(l){B a}[A:QD VC B a]:CP T (n+2) 70 [.agg B,.i .i64 l]=(EF a l).map λr=>.i .i64 r:=by
 obtain⟨rfl⟩:=A;rw[QM];simp-dsimp+contextual only[↓QW,eZ,seval,func70,f70,Qv6,Qho,cX]
 try simp only[EF,eY]
 repeat rfl
def Ph(l i){B a}[A:QC VC B a]:LP T (n+3) 12 5 (Q7 [(0,.imm 3 B),(1,.i .i64 l),(5,.i .i64 i)]) []=Xt (run (AF a) (l,i)) (λzr=>(XE.ret,Q7 [(4,.i .i64 zr)],[])) (λzr=>(XE.exit 0,Q7 [(1,.i .i64 zr)],[])):=by
 obtain⟨rfl⟩:=A;rw[QY];simp-dsimp only[↓QW,Xw,QV,func12,f12,Qrl,QbQ,TP,TZ,seval];apply Q2 l i;intro l i;simp-dsimp+contextual only[↓QW,eZ,seval,Yq]
 try simp only[AF,eY]
 repeat rfl
def UO(l){B a}[A:QC VC B a]:CP T (n+4) 12 [.imm 3 B,.i .i64 l]=(Fi a l).map λr=>.i .i64 r:=by
 obtain⟨rfl⟩:=A;rw[QM];simp-dsimp+contextual only[↓QW,eZ,seval,func12,f12,Qrl,QbQ,Ph]
 try simp only[Fi,eY]
 repeat rfl
def cM(l){B a}[A:QC VA B a]:CP T (n+1) 13 [.imm 3 B,.i .i64 l]=(Hs a l).map λr=>.i .i64 r:=by
 obtain⟨rfl⟩:=A;rw[QM];simp-dsimp+contextual only[↓QW,eZ,seval,func13,f13,Qvf,QhG]
 try simp only[Hs,eY]
 repeat rfl
def Ym(l){B a}[A:QC QZ B a]:CP T (n+1) 14 [.imm 5 B,.i .i64 l]=(GC a l).map λr=>.i .i64 r:=by
 obtain⟨rfl⟩:=A;rw[QM];simp-dsimp+contextual only[↓QW,eZ,seval,func14,f14,QwS,Qj1]
 try simp only[GC,eY]
 repeat rfl
def WW(l){B a}[A:QC Vq B a]:CP T (n+1) 15 [.imm 4 B,.i .i64 l]=(GH a l).map λr=>.i .i64 r:=by
 obtain⟨rfl⟩:=A;rw[QM];simp-dsimp+contextual only[↓QW,eZ,seval,func15,f15,QxZ,QhO]
 try simp only[GH,eY]
 repeat rfl
def dv(l){B a}[A:QC Vv B a]:CP T (n+1) 16 [.imm 5 B,.i .i64 l]=(Hq a l).map λr=>.i .i64 r:=by
 obtain⟨rfl⟩:=A;rw[QM];simp-dsimp+contextual only[↓QW,eZ,seval,func16,f16,Qws,QhE]
 try simp only[Hq,eY]
 repeat rfl
def YD(l){B a}[A:QC Vx B a]:CP T (n+1) 17 [.imm 4 B,.i .i64 l]=(GB a l).map λr=>.i .i64 r:=by
 obtain⟨rfl⟩:=A;rw[QM];simp-dsimp+contextual only[↓QW,eZ,seval,func17,f17,Qx3,Qir]
 try simp only[GB,eY]
 repeat rfl
def cG(l){B a}[A:QD Va B a]:CP T (n+5) 4 [.agg B,.i .i64 l]=(HE a l).map λr=>.i .i64 r:=by
 obtain⟨rfl⟩:=A;rw[QM];simp-dsimp+contextual(maxSteps:=1000000)only[↓QW,eZ,seval,func4,f4,Aa4,An4,dm,UO,cM,Ym,WW,dv,YD]
 try simp only[HE,eY]
 repeat rfl
def bM{B a}[A:QD CW B a]:CP T (n+1) 205 [.agg B]=(FY a).map λr=>.agg (CW r):=by
 obtain⟨rfl⟩:=A;rw[QM];simp-dsimp+contextual only[↓QW,eZ,seval,func205,f205,QrS,yx]
 try simp only[FY,eY]
 repeat rfl
def dN{B a}[A:QD Vn B a]:CP T (n+2) 106 [.agg B]=(G5 a).map λr=>.agg (Vn r):=by
 obtain⟨rfl⟩:=A;rw[QM];simp-dsimp+contextual only[↓QW,eZ,seval,func106,f106,QlI,vq,bM]
 try simp only[G5,eY]
 repeat rfl
def TV(i){C a D o}[A:QC Vn C a][B:QC Vn D o]:LP T (n+3) 32 3 (Q7 [(0,.imm 8 C),(3,.sl 0),(4,.i .i64 i)]) [some (.lst 8 D)]=(run (Cd a) (o,i)).map (λzr=>(XE.exit 0,Q7 [(3,.sl 0)],[some (.lst 8 (zr.map Vn))])):=by
 rcases A,B with⟨⟨rfl⟩,⟨rfl⟩⟩
 rw[QY];simp-dsimp only[↓QW,Xw,QV,func32,f32,Qpu,Qeg,TP,TZ,seval];apply Q2 o i;intro o i;simp-dsimp+contextual only[↓QW,eZ,seval,dN]
 try simp only[Cd,eY]
 repeat rfl
def ba{B a}[A:QC Vn B a]:CP T (n+4) 32 [.imm 8 B]=(HI a).map λr=>.own 8 (r.map Vn):=by
 obtain⟨rfl⟩:=A;rw[QM];simp-dsimp+contextual only[↓QW,eZ,seval,func32,f32,Qpu,Qeg,TV]
 try simp only[HI,eY]
 all_goals first|rfl|(simp +contextual only[B8]<;>rfl)
def er{B a}[A:QD Xb B a]:CP T (n+1) 285 [.agg B]=(Ha a).map λr=>.agg (Xb r):=by
 obtain⟨rfl⟩:=A;rw[QM];simp-dsimp+contextual only[↓QW,eZ,seval,func285,f285,QpG,yZ]
 try simp only[Ha,eY]
 repeat rfl
def S0(i){C a D o}[A:QC Xb C a][B:QC Xb D o]:LP T (n+2) 206 3 (Q7 [(0,.imm 2 C),(3,.sl 0),(4,.i .i64 i)]) [some (.lst 2 D)]=(run (Cs a) (o,i)).map (λzr=>(XE.exit 0,Q7 [(3,.sl 0)],[some (.lst 2 (zr.map Xb))])):=by
 rcases A,B with⟨⟨rfl⟩,⟨rfl⟩⟩
 rw[QY];simp-dsimp only[↓QW,Xw,QV,func206,f206,Qgh,qN,TP,TZ,seval];apply Q2 o i;intro o i;simp-dsimp+contextual only[↓QW,eZ,seval,er]
 try simp only[Cs,eY]
 repeat rfl
def cq{B a}[A:QC Xb B a]:CP T (n+3) 206 [.imm 2 B]=(HS a).map λr=>.own 2 (r.map Xb):=by
 obtain⟨rfl⟩:=A;rw[QM];simp-dsimp+contextual only[↓QW,eZ,seval,func206,f206,Qgh,qN,S0]
 try simp only[HS,eY]
 all_goals first|rfl|(simp +contextual only[B8]<;>rfl)
def Yr{B a}[A:QD VC B a]:CP T (n+4) 107 [.agg B]=(EQ a).map λr=>.agg (VF r):=by
 obtain⟨rfl⟩:=A;rw[QM];simp-dsimp+contextual only[↓QW,eZ,seval,func107,f107,QmE,uC,cq]
 try simp only[EQ,eY]
 repeat rfl
def Po(i){C a D o}[A:QC VC C a][B:QC VF D o]:LP T (n+5) 33 3 (Q7 [(0,.imm 3 C),(3,.sl 0),(4,.i .i64 i)]) [some (.lst 3 D)]=(run (AK a) (o,i)).map (λzr=>(XE.exit 0,Q7 [(3,.sl 0)],[some (.lst 3 (zr.map VF))])):=by
 rcases A,B with⟨⟨rfl⟩,⟨rfl⟩⟩
 rw[QY];simp-dsimp only[↓QW,Xw,QV,func33,f33,Qny,Qci,TP,TZ,seval];apply Q2 o i;intro o i;simp-dsimp+contextual only[↓QW,eZ,seval,Yr]
 try simp only[AK,eY]
 repeat rfl
def Wh{B a}[A:QC VC B a]:CP T (n+6) 33 [.imm 3 B]=(Fo a).map λr=>.own 3 (r.map VF):=by
 obtain⟨rfl⟩:=A;rw[QM];simp-dsimp+contextual only[↓QW,eZ,seval,func33,f33,Qny,Qci,Po]
 try simp only[Fo,eY]
 all_goals first|rfl|(simp +contextual only[B8]<;>rfl)
def dB{B a}[A:QD VA B a]:CP T (n+1) 108 [.agg B]=(G9 a).map λr=>.agg (VA r):=by
 obtain⟨rfl⟩:=A;rw[QM];simp-dsimp+contextual only[↓QW,eZ,seval,func108,f108,QnG,Qbg]
 try simp only[G9,eY]
 repeat rfl
def Te(i){C a D o}[A:QC VA C a][B:QC VA D o]:LP T (n+2) 34 3 (Q7 [(0,.imm 3 C),(3,.sl 0),(4,.i .i64 i)]) [some (.lst 3 D)]=(run (Cg a) (o,i)).map (λzr=>(XE.exit 0,Q7 [(3,.sl 0)],[some (.lst 3 (zr.map VA))])):=by
 rcases A,B with⟨⟨rfl⟩,⟨rfl⟩⟩
 rw[QY];simp-dsimp only[↓QW,Xw,QV,func34,f34,QnX,Qcu,TP,TZ,seval];apply Q2 o i;intro o i;simp-dsimp+contextual only[↓QW,eZ,seval,dB]
 try simp only[Cg,eY]
 repeat rfl
def bI{B a}[A:QC VA B a]:CP T (n+3) 34 [.imm 3 B]=(Hv a).map λr=>.own 3 (r.map VA):=by
 obtain⟨rfl⟩:=A;rw[QM];simp-dsimp+contextual only[↓QW,eZ,seval,func34,f34,QnX,Qcu,Te]
 try simp only[Hv,eY]
 all_goals first|rfl|(simp +contextual only[B8]<;>rfl)
def bc{B a}[A:QD QZ B a]:CP T (n+1) 109 [.agg B]=(FV a).map λr=>.agg (QZ r):=by
 obtain⟨rfl⟩:=A;rw[QM];simp-dsimp+contextual only[↓QW,eZ,seval,func109,f109,QlA,zF]
 try simp only[FV,eY]
 repeat rfl
def Rm(i){C a D o}[A:QC QZ C a][B:QC QZ D o]:LP T (n+2) 35 3 (Q7 [(0,.imm 5 C),(3,.sl 0),(4,.i .i64 i)]) [some (.lst 5 D)]=(run (BQ a) (o,i)).map (λzr=>(XE.exit 0,Q7 [(3,.sl 0)],[some (.lst 5 (zr.map QZ))])):=by
 rcases A,B with⟨⟨rfl⟩,⟨rfl⟩⟩
 rw[QY];simp-dsimp only[↓QW,Xw,QV,func35,f35,Qsc,QcR,TP,TZ,seval];apply Q2 o i;intro o i;simp-dsimp+contextual only[↓QW,eZ,seval,bc]
 try simp only[BQ,eY]
 repeat rfl
def Yi{B a}[A:QC QZ B a]:CP T (n+3) 35 [.imm 5 B]=(Gr a).map λr=>.own 5 (r.map QZ):=by
 obtain⟨rfl⟩:=A;rw[QM];simp-dsimp+contextual only[↓QW,eZ,seval,func35,f35,Qsc,QcR,Rm]
 try simp only[Gr,eY]
 all_goals first|rfl|(simp +contextual only[B8]<;>rfl)
def cE{B a}[A:QD Vq B a]:CP T (n+1) 110 [.agg B]=(F4 a).map λr=>.agg (Vq r):=by
 obtain⟨rfl⟩:=A;rw[QM];simp-dsimp+contextual only[↓QW,eZ,seval,func110,f110,Qsi,zI]
 try simp only[F4,eY]
 repeat rfl
def RE(i){C a D o}[A:QC Vq C a][B:QC Vq D o]:LP T (n+2) 36 3 (Q7 [(0,.imm 4 C),(3,.sl 0),(4,.i .i64 i)]) [some (.lst 4 D)]=(run (BE a) (o,i)).map (λzr=>(XE.exit 0,Q7 [(3,.sl 0)],[some (.lst 4 (zr.map Vq))])):=by
 rcases A,B with⟨⟨rfl⟩,⟨rfl⟩⟩
 rw[QY];simp-dsimp only[↓QW,Xw,QV,func36,f36,QoE,QeQ,TP,TZ,seval];apply Q2 o i;intro o i;simp-dsimp+contextual only[↓QW,eZ,seval,cE]
 try simp only[BE,eY]
 repeat rfl
def WZ{B a}[A:QC Vq B a]:CP T (n+3) 36 [.imm 4 B]=(GG a).map λr=>.own 4 (r.map Vq):=by
 obtain⟨rfl⟩:=A;rw[QM];simp-dsimp+contextual only[↓QW,eZ,seval,func36,f36,QoE,QeQ,RE]
 try simp only[GG,eY]
 all_goals first|rfl|(simp +contextual only[B8]<;>rfl)
def dQ{B a}[A:QD Vv B a]:CP T (n+1) 111 [.agg B]=(G8 a).map λr=>.agg (Vv r):=by
 obtain⟨rfl⟩:=A;rw[QM];simp-dsimp+contextual only[↓QW,eZ,seval,func111,f111,QpC,Qac]
 try simp only[G8,eY]
 repeat rfl
def S7(i){C a D o}[A:QC Vv C a][B:QC Vv D o]:LP T (n+2) 37 3 (Q7 [(0,.imm 5 C),(3,.sl 0),(4,.i .i64 i)]) [some (.lst 5 D)]=(run (Ct a) (o,i)).map (λzr=>(XE.exit 0,Q7 [(3,.sl 0)],[some (.lst 5 (zr.map Vv))])):=by
 rcases A,B with⟨⟨rfl⟩,⟨rfl⟩⟩
 rw[QY];simp-dsimp only[↓QW,Xw,QV,func37,f37,QsD,QdH,TP,TZ,seval];apply Q2 o i;intro o i;simp-dsimp+contextual only[↓QW,eZ,seval,dQ]
 try simp only[Ct,eY]
 repeat rfl
def cT{B a}[A:QC Vv B a]:CP T (n+3) 37 [.imm 5 B]=(Ht a).map λr=>.own 5 (r.map Vv):=by
 obtain⟨rfl⟩:=A;rw[QM];simp-dsimp+contextual only[↓QW,eZ,seval,func37,f37,QsD,QdH,S7]
 try simp only[Ht,eY]
 all_goals first|rfl|(simp +contextual only[B8]<;>rfl)
def aj{B a}[A:QD Vx B a]:CP T (n+1) 112 [.agg B]=(FM a).map λr=>.agg (Vx r):=by
 obtain⟨rfl⟩:=A;rw[QM];simp-dsimp+contextual only[↓QW,eZ,seval,func112,f112,QqW,yE]
 try simp only[FM,eY]
 repeat rfl
def RH(i){C a D o}[A:QC Vx C a][B:QC Vx D o]:LP T (n+2) 38 3 (Q7 [(0,.imm 4 C),(3,.sl 0),(4,.i .i64 i)]) [some (.lst 4 D)]=(run (BR a) (o,i)).map (λzr=>(XE.exit 0,Q7 [(3,.sl 0)],[some (.lst 4 (zr.map Vx))])):=by
 rcases A,B with⟨⟨rfl⟩,⟨rfl⟩⟩
 rw[QY];simp-dsimp only[↓QW,Xw,QV,func38,f38,QnV,Qca,TP,TZ,seval];apply Q2 o i;intro o i;simp-dsimp+contextual only[↓QW,eZ,seval,aj]
 try simp only[BR,eY]
 repeat rfl
def W4{B a}[A:QC Vx B a]:CP T (n+3) 38 [.imm 4 B]=(Gv a).map λr=>.own 4 (r.map Vx):=by
 obtain⟨rfl⟩:=A;rw[QM];simp-dsimp+contextual only[↓QW,eZ,seval,func38,f38,QnV,Qca,RH]
 try simp only[Gv,eY]
 all_goals first|rfl|(simp +contextual only[B8]<;>rfl)
def bK{B a}[A:QD Va B a]:CP T (n+7) 6 [.agg B]=(Be a).map λr=>.agg (Xi r):=by
 obtain⟨rfl⟩:=A;rw[QM];simp-dsimp+contextual(maxSteps:=1000000)only[↓QW,eZ,seval,func6,f6,Aa6,An6,ba,Wh,bI,Yi,WZ,cT,W4]
 try simp only[Be,eY]
 repeat rfl
def PR(l w i){B o}[A:QC Ij B o]:LP T (n+1) 18 4 (Q7 [(0,.s l),(3,.sl 0),(4,.s w),(5,.i .i64 i)]) [some (.lst 1 B)]=(run (Jd l) (o,w,i)).map (λzr=>(XE.exit 0,Q7 [(3,.sl 0)],[some (.lst 1 (zr.map Ij))])):=by
 obtain⟨rfl⟩:=A;rw[QY];simp-dsimp only[↓QW,Xw,QV,func18,f18,Qm1,QbG,TP,TZ,seval];apply Ba o w i;intro o w i;simp-dsimp+contextual only[↓QW,eZ,seval]
 try simp only[Jd,eY]
 repeat rfl
def Yk(l):CP T (n+2) 18 [.s l]=(GD l).map λr=>.own 1 (r.map Ij):=by
 rw[QM];simp-dsimp+contextual only[↓QW,eZ,seval,func18,f18,Qm1,QbG,PR]
 try simp only[GD,eY]
 all_goals first|rfl|(simp +contextual only[B8]<;>rfl)
def R0(i){C l D o}[A:QC VC C l][B:QC VF D o]:LP T (n+1) 71 3 (Q7 [(0,.imm 3 C),(3,.sl 0),(4,.i .i64 i)]) [some (.lst 3 D)]=(run (A4 l) (o,i)).map (λzr=>(XE.exit 0,Q7 [(3,.sl 0)],[some (.lst 3 (zr.map VF))])):=by
 rcases A,B with⟨⟨rfl⟩,⟨rfl⟩⟩
 rw[QY];simp-dsimp only[↓QW,Xw,QV,func71,f71,QnJ,QdF,TP,TZ,seval];apply Q2 o i;intro o i;simp-dsimp+contextual only[↓QW,eZ,seval]
 try simp only[A4,eY]
 repeat rfl
def NN{B l}[A:QC VC B l]:CP T (n+2) 71 [.imm 3 B]=(Jw l).map λr=>.own 3 (r.map VF):=by
 obtain⟨rfl⟩:=A;rw[QM];simp-dsimp+contextual only[↓QW,eZ,seval,func71,f71,QnJ,QdF,R0]
 try simp only[Jw,eY]
 all_goals first|rfl|(simp +contextual only[B8]<;>rfl)
def Xz{B a}[A:QD Va B a]:CP T (n+3) 19 [.agg B]=(Vm a).map λr=>.agg (Xi r):=by
 obtain⟨rfl⟩:=A;rw[QM];simp-dsimp+contextual(maxSteps:=1000000)only[↓QW,eZ,seval,func19,f19,Qut,QhL,NN]
 try simp only[Vm,eY]
 repeat rfl
def Vw(a l m):CP T (n+1) 168 [.i .i64 a,.i .i64 l,.i .i64 m]=(QR a l m).map λr=>.b r:=by
 rw[QM];simp-dsimp+contextual only[↓QW,eZ,seval,func168,f168,QnU,QaB]
 try simp only[QR,eY]
 repeat rfl
def MT(k):CP T (n+2) 167 [.i .i64 k]=(ET k).map λr=>.s r:=by
 rw[QM];simp-dsimp+contextual only[↓QW,eZ,seval,func167,f167,Qnt,zi,Vw]
 try simp only[ET,eY]
 repeat rfl
def UW(s k):LP T (n+3) 72 2 (Q7 [(0,.s s),(3,.i .i64 k)]) []=Xt (run (Fp s) k) (λzr=>(XE.ret,Q7 [(2,.i .i64 zr)],[])) (λzr=>(XE.exit 0,Q7 [],[])):=by
 rw[QY];simp-dsimp only[↓QW,Xw,QV,func72,f72,QqG,Qda,TP,TZ,seval];apply Q5 k;intro k;simp-dsimp+contextual only[↓QW,eZ,seval,MT]
 try simp only[Fp,eY]
 repeat rfl
def Pz(s):CP T (n+4) 72 [.s s]=(CC s).map λr=>.i .i64 r:=by
 rw[QM];simp-dsimp+contextual only[↓QW,eZ,seval,func72,f72,QqG,Qda,UW]
 try simp only[CC,eY]
 repeat rfl
def OS(a s a2):LP T (n+1) 78 5 (Q7 [(0,.i .i64 a),(3,.s s),(4,.i .i64 a2)]) []=(run (J9 a) (s,a2)).map (λzr=>(XE.exit 0,Q7 [(0,.i .i64 a),(3,.s zr)],[])):=by
 rw[QY];simp-dsimp only[↓QW,Xw,QV,func78,f78,Qtc,QbN,TP,TZ,seval];apply Q2 s a2;intro s a2;simp-dsimp+contextual only[↓QW,eZ,seval]
 try simp only[J9,eY]
 repeat rfl
def Je(a):CP T (n+2) 78 [.i .i64 a]=(Q4 a).map λr=>.s r:=by
 rw[QM];simp-dsimp+contextual only[↓QW,eZ,seval,func78,f78,Qtc,QbN,OS]
 try simp only[Q4,eY]
 repeat rfl
def P3(s a i):LP T (n+2) 74 5 (Q7 [(0,.s s),(4,.i .i64 a),(5,.i .i64 i)]) []=Xt (run (BP s) (a,i)) (λzr=>(XE.ret,Q7 [(2,.i .i64 zr.1),(3,.b zr.2)],[])) (λzr=>(XE.exit 0,Q7 [(0,.s s),(4,.i .i64 zr)],[])):=by
 rw[QY];simp-dsimp only[↓QW,Xw,QV,func74,f74,QqV,Qec,TP,TZ,seval];apply Q2 a i;intro a i;simp-dsimp+contextual only[↓QW,eZ,seval,Vw]
 try simp only[BP,eY]
 repeat rfl
def GM(s):CP T (n+3) 74 [.s s]=(Z0 s).map λr=>.tup [.i .i64 r.1,.b r.2]:=by
 rw[QM];simp-dsimp+contextual only[↓QW,eZ,seval,func74,f74,QqV,Qec,Vw,Je,P3]
 try simp only[Z0,eY]
 repeat rfl
def TU(i){C w D o}[A:QC Ij C w][B:QC Q9 D o]:LP T (n+4) 24 3 (Q7 [(0,.imm 1 C),(4,.sl 0),(5,.i .i64 i)]) [some (.lst 1 D)]=Xt (run (B9 w) (o,i)) (λzr=>(XE.ret,Q7 [(2,.sl 0),(3,.b zr.2)],[some (.lst 1 (zr.1.map Q9))])) (λzr=>(XE.exit 0,Q7 [(4,.sl 0)],[some (.lst 1 (zr.map Q9))])):=by
 rcases A,B with⟨⟨rfl⟩,⟨rfl⟩⟩
 rw[QY];simp-dsimp only[↓QW,Xw,QV,func24,f24,Qtn,QeS,TP,TZ,seval];apply Q2 o i;intro o i;simp-dsimp+contextual only[↓QW,eZ,seval,GM]
 try simp only[B9,eY]
 repeat rfl
def NQ{B w}[A:QC Ij B w]:CP T (n+5) 24 [.imm 1 B]=(Ab w).map λr=>.tup [.own 1 (r.1.map Q9),.b r.2]:=by
 obtain⟨rfl⟩:=A;rw[QM];simp-dsimp+contextual only[↓QW,eZ,seval,func24,f24,Qtn,QeS,TU]
 try simp only[Ab,eY]
 all_goals first|rfl|(simp +contextual only[B8]<;>rfl)
def aN{B w}[A:QC Ij B w]:CP T (n+6) 20 [.imm 1 B]=(JA w).map λr=>.agg (Oo r):=by
 obtain⟨rfl⟩:=A;rw[QM];simp-dsimp+contextual only[↓QW,eZ,Nat.reduceAdd,Nat.reduceMul,Nat.reduceBEq,Nat.reduceLeDiff,Nat.reduceLT,func20,f20,QxP,Qkx,Pz,NQ]
 try simp only[JA,eY]
 try simp only[List.contains_nil,Qi,Bool.and_true,T7,List.length_append,List.length_cons,List.length_nil,Nat.zero_add,th,jG]
 repeat rfl
def Rp(s b a i){B o}[A:QC Ij B o]:LP T (n+1) 73 4 (Q7 [(0,.s s),(1,.i .u8 b),(5,.sl 0),(6,.i .i64 a),(7,.i .i64 i)]) [some (.lst 1 B)]=(run (JV s b) (o,a,i)).map (λzr=>(XE.exit 0,Q7 [(5,.sl 0)],[some (.lst 1 (zr.map Ij))])):=by
 obtain⟨rfl⟩:=A;rw[QY];simp-dsimp only[↓QW,Xw,QV,func73,f73,Ql4,QdD,TP,TZ,seval];apply Ba o a i;intro o a i;simp-dsimp+contextual only[↓QW,eZ,seval]
 try simp only[JV,eY]
 repeat rfl
def IT(s b):CP T (n+2) 73 [.s s,.i .u8 b]=(JZ s b).map λr=>.own 1 (r.map Ij):=by
 rw[QM];simp-dsimp+contextual only[↓QW,eZ,seval,func73,f73,Ql4,QdD,Rp]
 try simp only[JZ,eY]
 all_goals first|rfl|(simp +contextual only[B8]<;>rfl)
def RM(s i){B l}[A:QC Q9 B l]:LP T (n+3) 169 3 (Q7 [(0,.imm 1 B),(3,.s s),(4,.i .i64 i)]) []=(run (BM l) (s,i)).map (λzr=>(XE.exit 0,Q7 [(0,.imm 1 (l.map Q9)),(3,.s zr)],[])):=by
 obtain⟨rfl⟩:=A;rw[QY];simp-dsimp only[↓QW,Xw,QV,func169,f169,Qga,pO,TP,TZ,seval];apply Q2 s i;intro s i;simp-dsimp+contextual only[↓QW,eZ,seval,Je]
 try simp only[BM,eY]
 repeat rfl
def MM{B l}[A:QC Q9 B l]:CP T (n+4) 169 [.imm 1 B]=(Bn l).map λr=>.s r:=by
 obtain⟨rfl⟩:=A;rw[QM];simp-dsimp+contextual only[↓QW,eZ,seval,func169,f169,Qga,pO,RM]
 try simp only[Bn,eY]
 repeat rfl
def O3(s i){C o D l}[A:QC Q9 C o][B:QC Ij D l]:LP T (n+4) 75 6 (Q7 [(0,.s s),(4,.sl 0),(5,.sl 1),(6,.i .i64 i)]) [some (.lst 1 C),some (.lst 1 D)]=Xt (run (Ao s l) (o,i)) (λzr=>(XE.ret,Q7 [(2,.sl 0),(3,.b zr.2)],[some (.lst 1 (zr.1.map Q9))])) (λzr=>(XE.exit 0,Q7 [(0,.s s),(4,.sl 0)],[some (.lst 1 (zr.map Q9))])):=by
 rcases A,B with⟨⟨rfl⟩,⟨rfl⟩⟩
 rw[QY];simp-dsimp only[↓QW,Xw,QV,func75,f75,QoY,QdR,TP,TZ,seval];apply Q2 o i;intro o i;simp-dsimp+contextual only[↓QW,eZ,seval,GM]
 try simp only[Ao,eY]
 repeat rfl
def Up(s):CP T (n+5) 75 [.s s]=(Dg s).map λr=>.tup [.own 1 (r.1.map Q9),.b r.2]:=by
 rw[QM];simp-dsimp+contextual only[↓QW,eZ,seval,func75,f75,QoY,QdR,IT,MM,O3]
 try simp only[Dg,eY]
 all_goals first|rfl|(simp +contextual only[B8]<;>rfl)
def dG(s):CP T (n+4) 76 [.s s]=(Hf s).map λr=>.tup [.i .i64 r.1,.i .i64 r.2.1,.b r.2.2]:=by
 rw[QM];simp-dsimp+contextual only[↓QW,eZ,Nat.reduceAdd,Nat.reduceMul,Nat.reduceBEq,Nat.reduceLeDiff,Nat.reduceLT,func76,f76,Quu,QiP,IT,GM]
 try simp only[Hf,eY]
 repeat rfl
def W5(l2 a i){B l}[A:QC Q9 B l]:LP T (n+2) 262 2 (Q7 [(0,.imm 1 B),(1,.i .i64 l2),(2,.i .i64 a),(7,.i .i64 i)]) []=Xt (run (EC l l2 a) i) (λzr=>(XE.ret,Q7 [(6,.b zr)],[])) (λzr=>(XE.exit 0,Q7 [],[])):=by
 obtain⟨rfl⟩:=A;rw[QY];simp-dsimp only[↓QW,Xw,QV,func262,f262,Qfj,oh,TP,TZ,seval];apply Q5 i;intro i;simp-dsimp+contextual only[↓QW,eZ,seval,Vw]
 try simp only[EC,eY]
 repeat rfl
def iV(l2 a){B l}[A:QC Q9 B l]:CP T (n+3) 262 [.imm 1 B,.i .i64 l2,.i .i64 a]=(Ik l l2 a).map λr=>.b r:=by
 obtain⟨rfl⟩:=A;rw[QM];simp-dsimp+contextual only[↓QW,eZ,seval,func262,f262,Qfj,oh,W5]
 try simp only[Ik,eY]
 repeat rfl
def d7{B s}[A:QD cU B s]:CP T (n+2) 263 [.agg B]=(Lh s).map λr=>.b r:=by
 obtain⟨rfl⟩:=A;rw[QM];simp-dsimp+contextual only[↓QW,eZ,seval,func263,f263,Qqj,zm,Vw]
 try simp only[Lh,eY]
 repeat rfl
def MV{B r}[A:QD D1 B r]:CP T (n+4) 170 [.agg B]=(Bp r).map λr=>.b r:=by
 obtain⟨rfl⟩:=A;rw[QM];simp-dsimp+contextual only[↓QW,eZ,seval,func170,f170,Qnk,Qbh,Vw,iV,d7]
 try simp only[Bp,eY]
 repeat rfl
def T6{B r}[A:QD D1 B r]:CP T (n+5) 77 [.agg B]=(Ec r).map λr=>.s r:=by
 obtain⟨rfl⟩:=A;rw[QM];simp-dsimp+contextual only[↓QW,eZ,seval,func77,f77,Qyn,QkD,MV,Je,MT,MM]
 try simp only[Ec,eY]
 repeat rfl
def P7(s):CP T (n+6) 21 [.s s]=(BG s).map λr=>.tup [.agg (LX r.1),.b r.2]:=by
 rw[QM];simp-dsimp+contextual only[↓QW,eZ,Nat.reduceAdd,Nat.reduceMul,Nat.reduceBEq,Nat.reduceLeDiff,Nat.reduceLT,func21,f21,QwQ,QkQ,IT,GM,Up,dG,Pz,T6]
 try simp only[BG,eY]
 repeat rfl
def Kk{B a}[A:QD CW B a]:CP T (n+2) 264 [.agg B]=(Js a).map λr=>.b r:=by
 obtain⟨rfl⟩:=A;rw[QM];simp-dsimp+contextual only[↓QW,eZ,seval,func264,f264,Qlr,yh,Vw]
 try simp only[Js,eY]
 repeat rfl
def Iu{B f}[A:QD Vn B f]:CP T (n+3) 171 [.agg B]=(XN f).map λr=>.b r:=by
 obtain⟨rfl⟩:=A;rw[QM];simp-dsimp+contextual only[↓QW,eZ,seval,func171,f171,Qnx,um,Kk,Vw]
 try simp only[XN,eY]
 repeat rfl
def RI(i){B l}[A:QC Vn B l]:LP T (n+4) 80 2 (Q7 [(0,.imm 8 B),(3,.i .i64 i)]) []=Xt (run (V2 l) i) (λzr=>(XE.ret,Q7 [(2,.b zr)],[])) (λzr=>(XE.exit 0,Q7 [(0,.imm 8 (l.map Vn))],[])):=by
 obtain⟨rfl⟩:=A;rw[QY];simp-dsimp only[↓QW,Xw,QV,func80,f80,Qsb,QeM,TP,TZ,seval];apply Q5 i;intro i;simp-dsimp+contextual only[↓QW,eZ,seval,Iu]
 try simp only[V2,eY]
 repeat rfl
def I0{B l}[A:QC Vn B l]:CP T (n+5) 80 [.imm 8 B]=(J0 l).map λr=>.b r:=by
 obtain⟨rfl⟩:=A;rw[QM];simp-dsimp+contextual only[↓QW,eZ,seval,func80,f80,Qsb,QeM,RI]
 try simp only[J0,eY]
 repeat rfl
end Go.Proofs.YtkgadcbajihilaaGreatDoor
