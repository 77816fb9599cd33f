import Derived.Test.YtkgadcbajihilaaGreatDoorEq1
set_option maxHeartbeats 4000000
set_option linter.unusedVariables false
set_option linter.unusedSimpArgs false
set_option linter.defProp false
set_option maxRecDepth 100000
namespace Go.Proofs.YtkgadcbajihilaaGreatDoor
open Go Go.Proofs Go.Proofs.YtkgadcbajihilaaGreatDoor.Am Tryz
variable(n:Nat)
def Yx(a i){B l}[A:QC Q9 B l]:LP T (n+1) 265 2 (Q7 [(0,.imm 1 B),(1,.i .i64 a),(5,.i .i64 i)]) []=Xt (run (EV l a) i) (λzr=>(XE.ret,Q7 [(4,.b zr)],[])) (λzr=>(XE.exit 0,Q7 [],[])):=by
 obtain⟨rfl⟩:=A;rw[QY];simp-dsimp only[↓QW,Xw,QV,func265,f265,Qgz,qU,TP,TZ,seval];apply Q5 i;intro i;simp-dsimp+contextual only[↓QW,eZ,seval]
 try simp only[EV,eY]
 repeat rfl
def L8(a){B l}[A:QC Q9 B l]:CP T (n+2) 265 [.imm 1 B,.i .i64 a]=(D5 l a).map λr=>.b r:=by
 obtain⟨rfl⟩:=A;rw[QM];simp-dsimp+contextual only[↓QW,eZ,seval,func265,f265,Qgz,qU,Yx]
 try simp only[D5,eY]
 repeat rfl
def d6{C r D f}[A:QD D1 C r][B:QD Vn D f]:CP T (n+5) 172 [.agg C,.agg D]=(IP r f).map λr=>.s r:=by
 rcases A,B with⟨⟨rfl⟩,⟨rfl⟩⟩
 rw[QM];simp-dsimp+contextual only[↓QW,eZ,seval,func172,f172,Qr2,ya,MV,Iu,L8,Vw]
 try simp only[IP,eY]
 repeat rfl
def gI{C r D f}[A:QD D1 C r][B:QD Vn D f]:CP T (n+6) 81 [.agg C,.agg D]=(G2 r f).map λr=>.b r:=by
 rcases A,B with⟨⟨rfl⟩,⟨rfl⟩⟩
 rw[QM];simp-dsimp+contextual only[↓QW,eZ,seval,func81,f81,Qxr,Qk2,d6]
 try simp only[G2,eY]
 repeat rfl
def Nq(i){D l E r F o}[A:QC Vn D l][B:QD D1 E r][C:QC Q9 F o]:LP T (n+7) 23 3 (Q7 [(1,.imm 8 D),(2,.ptr 0 0 0),(5,.sl 1),(6,.i .i64 i)]) [some (.box E),some (.lst 1 F)]=(run (JD l r) (o,i)).map (λzr=>(XE.exit 0,Q7 [(5,.sl 0)],[some (.lst 1 (zr.map Q9))])):=by
 rcases A,B,C with⟨⟨rfl⟩,⟨rfl⟩,⟨rfl⟩⟩
 rw[QY];simp-dsimp only[↓QW,Xw,QV,func23,f23,Qsa,Qdb,TP,TZ,seval];apply Q2 o i;intro o i;simp-dsimp+contextual only[↓QW,eZ,seval,I0,gI]
 try simp only[JD,eY]
 repeat rfl
def TH{C r D l}[A:QD D1 C r][B:QC Vn D l]:CP T (n+8) 23 [.agg C,.imm 8 D]=(Co r l).map λr=>.own 1 (r.map Q9):=by
 rcases A,B with⟨⟨rfl⟩,⟨rfl⟩⟩
 rw[QM];simp-dsimp+contextual only[↓QW,eZ,seval,func23,f23,Qsa,Qdb,Nq]
 try simp only[Co,eY]
 all_goals first|rfl|(simp +contextual only[B8]<;>rfl)
def T8(s i){B l}[A:QC Ij B l]:LP T (n+1) 79 3 (Q7 [(0,.imm 1 B),(3,.s s),(4,.i .i64 i)]) []=(run (Cj l) (s,i)).map (λzr=>(XE.exit 0,Q7 [(0,.imm 1 (l.map Ij)),(3,.s zr)],[])):=by
 obtain⟨rfl⟩:=A;rw[QY];simp-dsimp only[↓QW,Xw,QV,func79,f79,Qnl,Qei,TP,TZ,seval];apply Q2 s i;intro s i;simp-dsimp+contextual only[↓QW,eZ,seval]
 try simp only[Cj,eY]
 repeat rfl
def Kz{B l}[A:QC Ij B l]:CP T (n+2) 79 [.imm 1 B]=(DY l).map λr=>.s r:=by
 obtain⟨rfl⟩:=A;rw[QM];simp-dsimp+contextual only[↓QW,eZ,seval,func79,f79,Qnl,Qei,T8]
 try simp only[DY,eY]
 repeat rfl
def LL(i){C l D o}[A:QC Q9 C l][B:QC Ij D o]:LP T (n+3) 22 3 (Q7 [(0,.imm 1 C),(3,.sl 0),(4,.i .i64 i)]) [some (.lst 1 D)]=(run (Jm l) (o,i)).map (λzr=>(XE.exit 0,Q7 [(3,.sl 0)],[some (.lst 1 (zr.map Ij))])):=by
 rcases A,B with⟨⟨rfl⟩,⟨rfl⟩⟩
 rw[QY];simp-dsimp only[↓QW,Xw,QV,func22,f22,Qlu,Qcy,TP,TZ,seval];apply Q2 o i;intro o i;simp-dsimp+contextual only[↓QW,eZ,seval,Je]
 try simp only[Jm,eY]
 repeat rfl
def FJ{B l}[A:QC Q9 B l]:CP T (n+4) 22 [.imm 1 B]=(X4 l).map λr=>.s r:=by
 obtain⟨rfl⟩:=A;rw[QM];simp-dsimp+contextual only[↓QW,eZ,seval,func22,f22,Qlu,Qcy,Kz,LL]
 try simp only[X4,eY]
 repeat rfl
def Pn:CP T (n+1) 26 []=(spec_ExampleSlots).map λr=>.own 3 (r.map VA):=by
 rw[QM];simp-dsimp+contextual only[↓QW,eZ,seval,func26,f26,Qxu,Qhl]
 try simp only[spec_ExampleSlots,eY]
 all_goals first|rfl|(simp +contextual only[B8]<;>rfl)
def PW(i){B l}[A:QC Xb B l]:LP T (n+2) 266 2 (Q7 [(0,.imm 2 B),(3,.i .i64 i)]) []=Xt (run (JT l) i) (λzr=>(XE.ret,Q7 [(2,.b zr)],[])) (λzr=>(XE.exit 0,Q7 [(0,.imm 2 (l.map Xb))],[])):=by
 obtain⟨rfl⟩:=A;rw[QY];simp-dsimp only[↓QW,Xw,QV,func266,f266,Qgk,pB,TP,TZ,seval];apply Q5 i;intro i;simp-dsimp+contextual only[↓QW,eZ,seval,Vw]
 try simp only[JT,eY]
 repeat rfl
def I4{B l}[A:QC Xb B l]:CP T (n+3) 266 [.imm 2 B]=(Bi l).map λr=>.b r:=by
 obtain⟨rfl⟩:=A;rw[QM];simp-dsimp+contextual only[↓QW,eZ,seval,func266,f266,Qgk,pB,PW]
 try simp only[Bi,eY]
 repeat rfl
def NT(i){B l}[A:QC VC B l]:LP T (n+4) 173 2 (Q7 [(0,.imm 3 B),(3,.i .i64 i)]) []=Xt (run (JG l) i) (λzr=>(XE.ret,Q7 [(2,.b zr)],[])) (λzr=>(XE.exit 0,Q7 [(0,.imm 3 (l.map VC))],[])):=by
 obtain⟨rfl⟩:=A;rw[QY];simp-dsimp only[↓QW,Xw,QV,func173,f173,QgH,qg,TP,TZ,seval];apply Q5 i;intro i;simp-dsimp+contextual only[↓QW,eZ,seval,Vw,I4]
 try simp only[JG,eY]
 repeat rfl
def KQ{B l}[A:QC VC B l]:CP T (n+5) 173 [.imm 3 B]=(A5 l).map λr=>.b r:=by
 obtain⟨rfl⟩:=A;rw[QM];simp-dsimp+contextual only[↓QW,eZ,seval,func173,f173,QgH,qg,NT]
 try simp only[A5,eY]
 repeat rfl
def PZ(i k){B l}[A:QC VA B l]:LP T (n+1) 174 7 (Q7 [(0,.imm 3 B),(3,.i .i64 i),(4,.i .i64 k)]) []=Xt (run (ZH l i) k) (λzr=>(XE.ret,Q7 [(2,.b zr)],[])) (λzr=>(XE.exit 2,Q7 [(0,.imm 3 (l.map VA)),(3,.i .i64 i)],[])):=by
 obtain⟨rfl⟩:=A;rw[QY];simp-dsimp only[↓QW,Xw,QV,func174,f174,zE,jD,TP,TZ,seval];apply Q5 k;intro k;simp-dsimp+contextual only[↓QW,eZ,seval]
 try simp only[ZH,eY]
 repeat rfl
def RQ(i){B l}[A:QC VA B l]:LP T (n+2) 174 2 (Q7 [(0,.imm 3 B),(3,.i .i64 i)]) []=Xt (run (X9 l) i) (λzr=>(XE.ret,Q7 [(2,.b zr)],[])) (λzr=>(XE.exit 0,Q7 [(0,.imm 3 (l.map VA))],[])):=by
 obtain⟨rfl⟩:=A;rw[QY];simp-dsimp only[↓QW,Xw,QV,func174,f174,zE,jD,TP,TZ,seval];apply Q5 i;intro i;simp-dsimp+contextual only[↓QW,eZ,seval,Vw,PZ]
 try simp only[X9,eY]
 repeat rfl
def I1{B l}[A:QC VA B l]:CP T (n+3) 174 [.imm 3 B]=(Z9 l).map λr=>.b r:=by
 obtain⟨rfl⟩:=A;rw[QM];simp-dsimp+contextual only[↓QW,eZ,seval,func174,f174,zE,jD,RQ]
 try simp only[Z9,eY]
 repeat rfl
def Pg(i k){C l D a}[A:QC QZ C l][B:QD QZ D a]:LP T (n+1) 175 8 (Q7 [(0,.imm 5 C),(3,.i .i64 i),(4,.ptr 0 0 0),(5,.i .i64 k)]) [some (.box D)]=Xt (run (Zf l i a) k) (λzr=>(XE.ret,Q7 [(2,.b zr)],[])) (λzr=>(XE.exit 2,Q7 [(0,.imm 5 (l.map QZ)),(3,.i .i64 i)],[])):=by
 rcases A,B with⟨⟨rfl⟩,⟨rfl⟩⟩
 rw[QY];simp-dsimp only[↓QW,Xw,QV,func175,f175,wE,jh,TP,TZ,seval];apply Q5 k;intro k;simp-dsimp+contextual only[↓QW,eZ,seval]
 try simp only[Zf,eY]
 repeat rfl
def O1(i){B l}[A:QC QZ B l]:LP T (n+2) 175 2 (Q7 [(0,.imm 5 B),(3,.i .i64 i)]) []=Xt (run (Xc l) i) (λzr=>(XE.ret,Q7 [(2,.b zr)],[])) (λzr=>(XE.exit 0,Q7 [(0,.imm 5 (l.map QZ))],[])):=by
 obtain⟨rfl⟩:=A;rw[QY];simp-dsimp only[↓QW,Xw,QV,func175,f175,wE,jh,TP,TZ,seval];apply Q5 i;intro i;simp-dsimp+contextual only[↓QW,eZ,seval,Vw,Pg]
 try simp only[Xc,eY]
 repeat rfl
def Ig{B l}[A:QC QZ B l]:CP T (n+3) 175 [.imm 5 B]=(V5 l).map λr=>.b r:=by
 obtain⟨rfl⟩:=A;rw[QM];simp-dsimp+contextual only[↓QW,eZ,seval,func175,f175,wE,jh,O1]
 try simp only[V5,eY]
 repeat rfl
def cY(a m):CP T (n+2) 283 [.i .i64 a,.i .i64 m]=(HN a m).map λr=>.i .i64 r:=by
 rw[QM];simp-dsimp+contextual only[↓QW,eZ,seval,func283,f283,QtI,yT,Vw]
 try simp only[HN,eY]
 repeat rfl
def c7(d i){B l}[A:QC Q9 B l]:LP T (n+3) 284 3 (Q7 [(0,.imm 1 B),(3,.i .i64 d),(4,.i .i64 i)]) []=(run (Jt l) (d,i)).map (λzr=>(XE.exit 0,Q7 [(3,.i .i64 zr)],[])):=by
 obtain⟨rfl⟩:=A;rw[QY];simp-dsimp only[↓QW,Xw,QV,func284,f284,Qf8,oC,TP,TZ,seval];apply Q2 d i;intro d i;simp-dsimp+contextual only[↓QW,eZ,seval,cY]
 try simp only[Jt,eY]
 repeat rfl
def WU{B l}[A:QC Q9 B l]:CP T (n+4) 284 [.imm 1 B]=(Dn l).map λr=>.i .i64 r:=by
 obtain⟨rfl⟩:=A;rw[QM];simp-dsimp+contextual only[↓QW,eZ,seval,func284,f284,Qf8,oC,c7]
 try simp only[Dn,eY]
 repeat rfl
def MH(b){B a}[A:QD Vv B a]:CP T (n+5) 267 [.i .i64 b,.agg B]=(Bm b a).map λr=>.i .i64 r:=by
 obtain⟨rfl⟩:=A;rw[QM];simp-dsimp+contextual only[↓QW,eZ,seval,func267,f267,Qq9,un,WU]
 try simp only[Bm,eY]
 repeat rfl
def SC(a b k i){B l}[A:QC Vv B l]:LP T (n+1) 268 3 (Q7 [(0,.imm 5 B),(1,.i .i64 a),(2,.i .i64 b),(7,.i .i64 k),(8,.i .i64 i)]) []=(run (AS l a b) (k,i)).map (λzr=>(XE.exit 0,Q7 [(7,.i .i64 zr)],[])):=by
 obtain⟨rfl⟩:=A;rw[QY];simp-dsimp only[↓QW,Xw,QV,func268,f268,QfN,pW,TP,TZ,seval];apply Q2 k i;intro k i;simp-dsimp+contextual only[↓QW,eZ,seval]
 try simp only[AS,eY]
 repeat rfl
def NK(a b){B l}[A:QC Vv B l]:CP T (n+2) 268 [.imm 5 B,.i .i64 a,.i .i64 b]=(FX l a b).map λr=>.i .i64 r:=by
 obtain⟨rfl⟩:=A;rw[QM];simp-dsimp+contextual only[↓QW,eZ,seval,func268,f268,QfN,pW,SC]
 try simp only[FX,eY]
 repeat rfl
def Sm(s i){B l}[A:QC Vv B l]:LP T (n+6) 176 3 (Q7 [(0,.imm 5 B),(3,.i .i64 s),(4,.i .i64 i)]) []=Xt (run (VJ l) (s,i)) (λzr=>(XE.ret,Q7 [(2,.b zr)],[])) (λzr=>(XE.exit 0,Q7 [(0,.imm 5 (l.map Vv))],[])):=by
 obtain⟨rfl⟩:=A;rw[QY];simp-dsimp only[↓QW,Xw,QV,func176,f176,QgD,oS,TP,TZ,seval];apply Q2 s i;intro s i;simp-dsimp+contextual only[↓QW,eZ,seval,MH,Vw,NK]
 try simp only[VJ,eY]
 repeat rfl
def Kv{B l}[A:QC Vv B l]:CP T (n+7) 176 [.imm 5 B]=(XT l).map λr=>.b r:=by
 obtain⟨rfl⟩:=A;rw[QM];simp-dsimp+contextual only[↓QW,eZ,seval,func176,f176,QgD,oS,Sm]
 try simp only[XT,eY]
 repeat rfl
def ND(i){B l}[A:QC Vx B l]:LP T (n+2) 177 2 (Q7 [(0,.imm 4 B),(3,.i .i64 i)]) []=Xt (run (JE l) i) (λzr=>(XE.ret,Q7 [(2,.b zr)],[])) (λzr=>(XE.exit 0,Q7 [(0,.imm 4 (l.map Vx))],[])):=by
 obtain⟨rfl⟩:=A;rw[QY];simp-dsimp only[↓QW,Xw,QV,func177,f177,Qfl,qX,TP,TZ,seval];apply Q5 i;intro i;simp-dsimp+contextual only[↓QW,eZ,seval,Vw]
 try simp only[JE,eY]
 repeat rfl
def HV{B l}[A:QC Vx B l]:CP T (n+3) 177 [.imm 4 B]=(Jz l).map λr=>.b r:=by
 obtain⟨rfl⟩:=A;rw[QM];simp-dsimp+contextual only[↓QW,eZ,seval,func177,f177,Qfl,qX,ND]
 try simp only[Jz,eY]
 repeat rfl
def Yf(a k){B l}[A:QC Q9 B l]:LP T (n+1) 336 2 (Q7 [(0,.imm 1 B),(1,.i .i64 a),(5,.i .i64 k)]) []=(run (XL l a) k).map (λzr=>(XE.exit 0,Q7 [(0,.imm 1 (l.map Q9)),(1,.i .i64 a),(5,.i .i64 zr)],[])):=by
 obtain⟨rfl⟩:=A;rw[QY];simp-dsimp only[↓QW,Xw,QV,func336,f336,Qe5,pc,TP,TZ,seval];apply Q5 k;intro k;simp-dsimp+contextual only[↓QW,eZ,seval]
 try simp only[XL,eY]
 try simp only[List.contains_nil,Qi,Bool.and_true,T7,List.length_append,List.length_cons,List.length_nil,Nat.zero_add,th,jG]
 repeat rfl
def TC(a){B l}[A:QC Q9 B l]:CP T (n+2) 336 [.imm 1 B,.i .i64 a]=(BY l a).map λr=>.own 1 (r.map Q9):=by
 obtain⟨rfl⟩:=A;rw[QM];simp-dsimp+contextual only[↓QW,eZ,seval,func336,f336,Qe5,pc,Yf]
 try simp only[BY,eY]
 try simp only[List.contains_nil,Qi,Bool.and_true,T7,List.length_append,List.length_cons,List.length_nil,Nat.zero_add,th,jG]
 all_goals first|rfl|(simp +contextual only[B8]<;>rfl)
def Tt(a i){C l D o}[A:QC Vv C l][B:QC Q9 D o]:LP T (n+8) 269 3 (Q7 [(0,.imm 5 C),(1,.i .i64 a),(5,.sl 0),(6,.i .i64 i)]) [some (.lst 1 D)]=(run (Cr l a) (o,i)).map (λzr=>(XE.exit 0,Q7 [(5,.sl 0)],[some (.lst 1 (zr.map Q9))])):=by
 rcases A,B with⟨⟨rfl⟩,⟨rfl⟩⟩
 rw[QY];simp-dsimp only[↓QW,Xw,QV,func269,f269,Qgb,qS,TP,TZ,seval];apply Q2 o i;intro o i;simp-dsimp+contextual only[↓QW,eZ,seval,Kv,NK,TC]
 try simp only[Cr,eY]
 repeat rfl
def Nt(a){B l}[A:QC Vv B l]:CP T (n+9) 269 [.imm 5 B,.i .i64 a]=(Ga l a).map λr=>.own 1 (r.map Q9):=by
 obtain⟨rfl⟩:=A;rw[QM];simp-dsimp+contextual only[↓QW,eZ,seval,func269,f269,Qgb,qS,Tt]
 try simp only[Ga,eY]
 all_goals first|rfl|(simp +contextual only[B8]<;>rfl)
def Pa(i i2){B l}[A:QC Vn B l]:LP T (n+1) 101 2 (Q7 [(0,.imm 8 B),(1,.i .i64 i),(5,.i .i64 i2)]) []=Xt (run (AH l i) i2) (λzr=>(XE.ret,Q7 [(4,.i .i64 zr)],[])) (λzr=>(XE.exit 0,Q7 [],[])):=by
 obtain⟨rfl⟩:=A;rw[QY];simp-dsimp only[↓QW,Xw,QV,func101,f101,Qgw,qF,TP,TZ,seval];apply Q5 i2;intro i2;simp-dsimp+contextual only[↓QW,eZ,seval]
 try simp only[AH,eY]
 repeat rfl
def Ja(i){B l}[A:QC Vn B l]:CP T (n+2) 101 [.imm 8 B,.i .i64 i]=(Xr l i).map λr=>.i .i64 r:=by
 obtain⟨rfl⟩:=A;rw[QM];simp-dsimp+contextual only[↓QW,eZ,seval,func101,f101,Qgw,qF,Pa]
 try simp only[Xr,eY]
 repeat rfl
def U1(a i){B l}[A:QC VA B l]:LP T (n+1) 186 2 (Q7 [(0,.imm 3 B),(1,.i .i64 a),(5,.i .i64 i)]) []=Xt (run (J3 l a) i) (λzr=>(XE.ret,Q7 [(4,.i .i64 zr)],[])) (λzr=>(XE.exit 0,Q7 [],[])):=by
 obtain⟨rfl⟩:=A;rw[QY];simp-dsimp only[↓QW,Xw,QV,func186,f186,Qgn,rr,TP,TZ,seval];apply Q5 i;intro i;simp-dsimp+contextual only[↓QW,eZ,seval]
 try simp only[J3,eY]
 repeat rfl
def Gs(a){B l}[A:QC VA B l]:CP T (n+2) 186 [.imm 3 B,.i .i64 a]=(Zt l a).map λr=>.i .i64 r:=by
 obtain⟨rfl⟩:=A;rw[QM];simp-dsimp+contextual only[↓QW,eZ,seval,func186,f186,Qgn,rr,U1]
 try simp only[Zt,eY]
 repeat rfl
def Ps(i2){C a D i}[A:QD Va C a][B:QC Q9 D i]:LP T (n+3) 178 5 (Q7 [(1,.ptr 0 0 0),(3,.sl 1),(4,.i .i64 i2)]) [some (.box C),some (.lst 1 D)]=Xt (run (AA a i) i2) (λzr=>(XE.ret,Q7 [(2,.b zr)],[])) (λzr=>(XE.exit 0,Q7 [(1,.ptr 0 0 0),(3,.sl 1)],[some (.box (Va a)),some (.lst 1 (i.map Q9))])):=by
 rcases A,B with⟨⟨rfl⟩,⟨rfl⟩⟩
 rw[QY];simp-dsimp only[↓QW,Xw,QV,func178,f178,od,fM,TP,TZ,seval];apply Q5 i2;intro i2;simp-dsimp+contextual(maxSteps:=1000000)only[↓QW,eZ,seval,Ja]
 try simp only[AA,eY]
 repeat rfl
def Nv(i2){C a D i}[A:QD Va C a][B:QC Q9 D i]:LP T (n+3) 178 10 (Q7 [(1,.ptr 0 0 0),(3,.sl 1),(5,.i .i64 i2)]) [some (.box C),some (.lst 1 D)]=Xt (run (ZP a i) i2) (λzr=>(XE.ret,Q7 [(2,.b zr)],[])) (λzr=>(XE.exit 2,Q7 [(1,.ptr 0 0 0)],[some (.box (Va a))])):=by
 rcases A,B with⟨⟨rfl⟩,⟨rfl⟩⟩
 rw[QY];simp-dsimp only[↓QW,Xw,QV,func178,f178,od,fM,TP,TZ,seval];apply Q5 i2;intro i2;simp-dsimp+contextual(maxSteps:=1000000)only[↓QW,eZ,seval,Gs,L8]
 try simp only[ZP,eY]
 repeat rfl
def Oe(i){B a}[A:QD Va B a]:LP T (n+3) 178 16 (Q7 [(1,.ptr 0 0 0),(7,.i .i64 i)]) [some (.box B)]=Xt (run (ZJ a) i) (λzr=>(XE.ret,Q7 [(2,.b zr)],[])) (λzr=>(XE.exit 4,Q7 [],[])):=by
 obtain⟨rfl⟩:=A;rw[QY];simp-dsimp only[↓QW,Xw,QV,func178,f178,od,fM,TP,TZ,seval];apply Q5 i;intro i;simp-dsimp+contextual(maxSteps:=1000000)only[↓QW,eZ,seval,Ja]
 try simp only[ZJ,eY]
 repeat rfl
def UA{B a}[A:QD Va B a]:CP T (n+10) 178 [.agg B]=(DB a).map λr=>.b r:=by
 obtain⟨rfl⟩:=A;rw[QM];simp-dsimp+contextual(maxSteps:=1000000)only[↓QW,eZ,seval,func178,f178,od,fM,Nt,Ps,Nv,Oe]
 try simp only[DB,eY]
 repeat rfl
def N2{B a}[A:QD Vq B a]:CP T (n+2) 270 [.agg B]=(DW a).map λr=>.b r:=by
 obtain⟨rfl⟩:=A;rw[QM];simp-dsimp+contextual only[↓QW,eZ,seval,func270,f270,Qta,wk,Vw]
 try simp only[DW,eY]
 repeat rfl
def Tc(a i){B l}[A:QC VC B l]:LP T (n+1) 202 2 (Q7 [(0,.imm 3 B),(1,.i .i64 a),(5,.i .i64 i)]) []=Xt (run (Cy l a) i) (λzr=>(XE.ret,Q7 [(4,.i .i64 zr)],[])) (λzr=>(XE.exit 0,Q7 [],[])):=by
 obtain⟨rfl⟩:=A;rw[QY];simp-dsimp only[↓QW,Xw,QV,func202,f202,QfX,qq,TP,TZ,seval];apply Q5 i;intro i;simp-dsimp+contextual only[↓QW,eZ,seval]
 try simp only[Cy,eY]
 repeat rfl
def cp(a){B l}[A:QC VC B l]:CP T (n+2) 202 [.imm 3 B,.i .i64 a]=(Ki l a).map λr=>.i .i64 r:=by
 obtain⟨rfl⟩:=A;rw[QM];simp-dsimp+contextual only[↓QW,eZ,seval,func202,f202,QfX,qq,Tc]
 try simp only[Ki,eY]
 repeat rfl
def KH(a){B l}[A:QC VC B l]:CP T (n+3) 99 [.imm 3 B,.i .i64 a]=(CI l a).map λr=>.own 2 (r.map Xb):=by
 obtain⟨rfl⟩:=A;rw[QM];simp-dsimp+contextual only[↓QW,eZ,seval,func99,f99,Qv0,QiC,cp]
 try simp only[CI,eY]
 all_goals first|rfl|(simp +contextual only[B8]<;>rfl)
def bG(a b):CP T (n+1) 276 [.i .i64 a,.i .i64 b]=(LS a b).map λr=>.i .i64 r:=by
 rw[QM];simp-dsimp+contextual only[↓QW,eZ,seval,func276,f276,Qpr,y9]
 try simp only[LS,eY]
 repeat rfl
def aL{B l}[A:QC Xb B l]:CP T (n+2) 273 [.imm 2 B]=(HC l).map λr=>.i .i64 r:=by
 obtain⟨rfl⟩:=A;rw[QM];simp-dsimp+contextual only[↓QW,eZ,seval,func273,f273,Qrv,uU,bG]
 try simp only[HC,eY]
 repeat rfl
def Hx{C l D a}[A:QC Xb C l][B:QD Vq D a]:CP T (n+4) 188 [.imm 2 C,.agg D]=(A6 l a).map λr=>.i .i64 r:=by
 rcases A,B with⟨⟨rfl⟩,⟨rfl⟩⟩
 rw[QM];simp-dsimp+contextual only[↓QW,eZ,seval,func188,f188,Qn6,QaM,N2,I4,aL]
 try simp only[A6,eY]
 repeat rfl
def O6(i){B a}[A:QD Va B a]:LP T (n+5) 179 4 (Q7 [(1,.ptr 0 0 0),(3,.i .i64 i)]) [some (.box B)]=Xt (run (Au a) i) (λzr=>(XE.ret,Q7 [(2,.b zr)],[])) (λzr=>(XE.exit 0,Q7 [],[])):=by
 obtain⟨rfl⟩:=A;rw[QY];simp-dsimp only[↓QW,Xw,QV,func179,f179,QgS,rA,TP,TZ,seval];apply Q5 i;intro i;simp-dsimp+contextual(maxSteps:=1000000)only[↓QW,eZ,seval,Ja,N2,KH,Hx]
 try simp only[Au,eY]
 repeat rfl
def Ud{B a}[A:QD Va B a]:CP T (n+6) 179 [.agg B]=(Dr a).map λr=>.b r:=by
 obtain⟨rfl⟩:=A;rw[QM];simp-dsimp+contextual(maxSteps:=1000000)only[↓QW,eZ,seval,func179,f179,QgS,rA,O6]
 try simp only[Dr,eY]
 repeat rfl
def BZ{B a}[A:QD Va B a]:CP T (n+11) 82 [.agg B]=(VV a).map λr=>.b r:=by
 obtain⟨rfl⟩:=A;rw[QM];simp-dsimp+contextual(maxSteps:=1000000)only[↓QW,eZ,seval,func82,f82,Qvy,QkJ,Vw,I0,KQ,I1,Ig,Kv,HV,UA,Ud]
 try simp only[VV,eY]
 repeat rfl
def Pi(a i){B l}[A:QC VA B l]:LP T (n+1) 83 3 (Q7 [(0,.imm 3 B),(3,.i .i64 a),(4,.i .i64 i)]) []=(run (Zh l) (a,i)).map (λzr=>(XE.exit 0,Q7 [(3,.i .i64 zr)],[])):=by
 obtain⟨rfl⟩:=A;rw[QY];simp-dsimp only[↓QW,Xw,QV,func83,f83,Qs2,QdW,TP,TZ,seval];apply Q2 a i;intro a i;simp-dsimp+contextual only[↓QW,eZ,seval]
 try simp only[Zh,eY]
 repeat rfl
def UK{B l}[A:QC VA B l]:CP T (n+2) 83 [.imm 3 B]=(Fk l).map λr=>.i .i64 r:=by
 obtain⟨rfl⟩:=A;rw[QM];simp-dsimp+contextual only[↓QW,eZ,seval,func83,f83,Qs2,QdW,Pi]
 try simp only[Fk,eY]
 repeat rfl
def Ye(a){B s}[A:QC VA B s]:CP T (n+12) 25 [.i .i64 a,.imm 3 B]=(Aa a s).map λr=>.tup [.agg (Xi r.1),.b r.2]:=by
 obtain⟨rfl⟩:=A;rw[QM];simp-dsimp+contextual(maxSteps:=1000000)only[↓QW,eZ,seval,func25,f25,QuJ,QjW,Xz,BZ,UK]
 try simp only[Aa,eY]
 repeat rfl
def aF(a2xNo a2xNow o){I a J a2xFinds K a2xSecrets L a2xSlots M a2xClaims N a2xTrials O a2xChain P a2xBook}[A:QD Va I a][B:QC Vn J a2xFinds][C:QC VF K a2xSecrets][D:QC VA L a2xSlots][E:QC QZ M a2xClaims][F:QC Vq N a2xTrials][G:QC Vv O a2xChain][H:QC Vx P a2xBook]:CM T (n+4) 27 [some (.lst 8 J),some (.lst 3 K),some (.lst 3 L),some (.lst 5 M),some (.lst 4 N),some (.lst 5 O),some (.lst 4 P)] [.agg I,.agg [.i .i64 a2xNo,.sl 0,.sl 1,.sl 2,.sl 3,.sl 4,.sl 5,.sl 6,.i .i64 a2xNow],.b o]=(Z5 a (⟨a2xNo,a2xFinds,a2xSecrets,a2xSlots,a2xClaims,a2xTrials,a2xChain,a2xBook,a2xNow⟩:Ql) o).map λr=>.tup [.agg (Xi r.1),.s r.2]:=by
 rcases A,B,C,D,E,F,G,H with⟨⟨rfl⟩,⟨rfl⟩,⟨rfl⟩,⟨rfl⟩,⟨rfl⟩,⟨rfl⟩,⟨rfl⟩,⟨rfl⟩⟩
 rw[Y8];simp-dsimp+contextual(maxSteps:=1000000)only[↓QW,eZ,seval,func27,f27,Qwq,QhX,Xz]
 try simp only[Z5,eY]
 repeat rfl
def Yg(w){B a}[A:QC Q9 B a]:CP T (n+1) 28 [.s w,.imm 1 B]=(XM w a).map λr=>.agg (Oo r):=by
 obtain⟨rfl⟩:=A;rw[QM];simp-dsimp+contextual only[↓QW,eZ,Nat.reduceAdd,Nat.reduceMul,Nat.reduceBEq,Nat.reduceLeDiff,Nat.reduceLT,func28,f28,Qv5,Qh1]
 try simp only[XM,eY]
 repeat rfl
def TG(k){C l D f}[A:QC Vn C l][B:QD Vn D f]:LP T (n+1) 180 2 (Q7 [(0,.imm 8 C),(3,.ptr 0 0 0),(6,.i .i64 k)]) [some (.box D)]=(run (Ck l f) k).map (λzr=>(XE.exit 0,Q7 [(0,.imm 8 (l.map Vn)),(3,.ptr 0 0 0),(6,.i .i64 zr)],[some (.box (Vn f))])):=by
 rcases A,B with⟨⟨rfl⟩,⟨rfl⟩⟩
 rw[QY];simp-dsimp only[↓QW,Xw,QV,func180,f180,Qfk,qB,TP,TZ,seval];apply Q5 k;intro k;simp-dsimp+contextual only[↓QW,eZ,seval]
 try simp only[Ck,eY]
 try simp only[List.contains_nil,Qi,Bool.and_true,T7,List.length_append,List.length_cons,List.length_nil,Nat.zero_add,th,jG]
 repeat rfl
def bt{C l D f}[A:QC Vn C l][B:QD Vn D f]:CP T (n+6) 180 [.imm 8 C,.agg D]=(FL l f).map λr=>.tup [.own 8 (r.1.map Vn),.b r.2]:=by
 rcases A,B with⟨⟨rfl⟩,⟨rfl⟩⟩
 rw[QM];simp-dsimp+contextual only[↓QW,eZ,seval,func180,f180,Qfk,qB,I0,TG]
 try simp only[FL,eY]
 try simp only[List.contains_nil,Qi,Bool.and_true,T7,List.length_append,List.length_cons,List.length_nil,Nat.zero_add,th,jG]
 all_goals first|rfl|(simp +contextual only[B8]<;>rfl)
def Pf(k){C l D a}[A:QC VC C l][B:QD VC D a]:LP T (n+1) 181 2 (Q7 [(0,.imm 3 C),(3,.ptr 0 0 0),(6,.i .i64 k)]) [some (.box D)]=(run (Aj l a) k).map (λzr=>(XE.exit 0,Q7 [(0,.imm 3 (l.map VC)),(3,.ptr 0 0 0),(6,.i .i64 zr)],[some (.box (VC a))])):=by
 rcases A,B with⟨⟨rfl⟩,⟨rfl⟩⟩
 rw[QY];simp-dsimp only[↓QW,Xw,QV,func181,f181,QgO,qi,TP,TZ,seval];apply Q5 k;intro k;simp-dsimp+contextual only[↓QW,eZ,seval]
 try simp only[Aj,eY]
 try simp only[List.contains_nil,Qi,Bool.and_true,T7,List.length_append,List.length_cons,List.length_nil,Nat.zero_add,th,jG]
 repeat rfl
def UN{C l D a}[A:QC VC C l][B:QD VC D a]:CP T (n+6) 181 [.imm 3 C,.agg D]=(Dz l a).map λr=>.tup [.own 3 (r.1.map VF),.b r.2]:=by
 rcases A,B with⟨⟨rfl⟩,⟨rfl⟩⟩
 rw[QM];simp-dsimp+contextual only[↓QW,eZ,seval,func181,f181,QgO,qi,NN,KQ,Pf]
 try simp only[Dz,eY]
 try simp only[List.contains_nil,Qi,Bool.and_true,T7,List.length_append,List.length_cons,List.length_nil,Nat.zero_add,th,jG]
 all_goals first|rfl|(simp +contextual only[B8]<;>rfl)
def Mk(s k i){B l}[A:QC VA B l]:LP T (n+1) 271 3 (Q7 [(0,.imm 3 B),(1,.i .i64 s),(5,.i .i64 k),(6,.i .i64 i)]) []=(run (VX l s) (k,i)).map (λzr=>(XE.exit 0,Q7 [(0,.imm 3 (l.map VA)),(5,.i .i64 zr)],[])):=by
 obtain⟨rfl⟩:=A;rw[QY];simp-dsimp only[↓QW,Xw,QV,func271,f271,QgI,oT,TP,TZ,seval];apply Q2 k i;intro k i;simp-dsimp+contextual only[↓QW,eZ,seval]
 try simp only[VX,eY]
 repeat rfl
def ON(s){B l}[A:QC VA B l]:CP T (n+2) 271 [.imm 3 B,.i .i64 s]=(CB l s).map λr=>.i .i64 r:=by
 obtain⟨rfl⟩:=A;rw[QM];simp-dsimp+contextual only[↓QW,eZ,seval,func271,f271,QgI,oT,Mk]
 try simp only[CB,eY]
 repeat rfl
def TJ(s i){C a D o}[A:QD CW C a][B:QC VA D o]:LP T (n+1) 182 6 (Q7 [(3,.ptr 0 0 0),(6,.sl 1),(7,.i .i64 s),(8,.i .i64 i)]) [some (.box C),some (.lst 3 D)]=(run (Ju a s) (o,i)).map (λzr=>(XE.exit 0,Q7 [(6,.sl 0)],[some (.lst 3 (zr.map VA))])):=by
 rcases A,B with⟨⟨rfl⟩,⟨rfl⟩⟩
 rw[QY];simp-dsimp only[↓QW,Xw,QV,func182,f182,QeZ,qM,TP,TZ,seval];apply Q2 o i;intro o i;simp-dsimp+contextual only[↓QW,eZ,seval]
 try simp only[Ju,eY]
 repeat rfl
def aQ{C l D a}[A:QC VA C l][B:QD CW D a]:CP T (n+4) 182 [.imm 3 C,.agg D]=(Gc l a).map λr=>.tup [.own 3 (r.1.map VA),.b r.2]:=by
 rcases A,B with⟨⟨rfl⟩,⟨rfl⟩⟩
 rw[QM];simp-dsimp+contextual only[↓QW,eZ,seval,func182,f182,QeZ,qM,ON,I1,Kk,Gs,TJ]
 try simp only[Gc,eY]
 all_goals first|rfl|(simp +contextual only[B8]<;>rfl)
def NG{C l D a}[A:QC Vv C l][B:QD Vv D a]:CP T (n+8) 183 [.imm 5 C,.agg D]=(F5 l a).map λr=>.tup [.own 5 (r.1.map Vv),.b r.2]:=by
 rcases A,B with⟨⟨rfl⟩,⟨rfl⟩⟩
 rw[QM];simp-dsimp+contextual only[↓QW,eZ,seval,func183,f183,QrL,uX,MH,Kv]
 try simp only[F5,eY]
 try simp only[List.contains_nil,Qi,Bool.and_true,T7,List.length_append,List.length_cons,List.length_nil,Nat.zero_add,th,jG]
 all_goals first|rfl|(simp +contextual only[B8]<;>rfl)
def BW(oxNo oxNow o2){I a J oxFinds K oxSecrets L oxSlots M oxClaims N oxTrials O oxChain P oxBook}[A:QD Va I a][B:QC Vn J oxFinds][C:QC VF K oxSecrets][D:QC VA L oxSlots][E:QC QZ M oxClaims][F:QC Vq N oxTrials][G:QC Vv O oxChain][H:QC Vx P oxBook]:CM T (n+12) 184 [some (.lst 8 J),some (.lst 3 K),some (.lst 3 L),some (.lst 5 M),some (.lst 4 N),some (.lst 5 O),some (.lst 4 P)] [.agg I,.agg [.i .i64 oxNo,.sl 0,.sl 1,.sl 2,.sl 3,.sl 4,.sl 5,.sl 6,.i .i64 oxNow],.b o2]=(Vj a (⟨oxNo,oxFinds,oxSecrets,oxSlots,oxClaims,oxTrials,oxChain,oxBook,oxNow⟩:Ql) o2).map λr=>.tup [.agg (Xi r.1),.b r.2]:=by
 rcases A,B,C,D,E,F,G,H with⟨⟨rfl⟩,⟨rfl⟩,⟨rfl⟩,⟨rfl⟩,⟨rfl⟩,⟨rfl⟩,⟨rfl⟩,⟨rfl⟩⟩
 rw[Y8];simp-dsimp+contextual(maxSteps:=1000000)only[↓QW,eZ,seval,func184,f184,Qqx,xK,BZ,Xz]
 try simp only[Vj,eY]
 repeat rfl
def W9(s){D a E f F m}[A:QD Va D a][B:QD Vn E f][C:QC Xb F m]:CP T (n+13) 84 [.agg D,.agg E,.imm 2 F,.i .i64 s]=(CY a f m s).map λr=>.tup [.agg (Xi r.1),.b r.2]:=by
 rcases A,B,C with⟨⟨rfl⟩,⟨rfl⟩,⟨rfl⟩⟩
 rw[QM];simp-dsimp+contextual(maxSteps:=1000000)only[↓QW,eZ,seval,func84,f84,Qyu,Qj9,Ni,Xz,bt,UN,aQ,NG,BW]
 try simp only[CY,eY]
 repeat rfl
def PS(k b i){C l D a}[A:QC QZ C l][B:QD QZ D a]:LP T (n+1) 185 4 (Q7 [(0,.imm 5 C),(3,.ptr 0 0 0),(6,.i .i64 k),(7,.b b),(8,.i .i64 i)]) [some (.box D)]=(run (ZX l a) (k,b,i)).map (λzr=>(XE.exit 0,Q7 [(0,.imm 5 (l.map QZ)),(3,.ptr 0 0 0),(6,.i .i64 zr.1),(7,.b zr.2)],[some (.box (QZ a))])):=by
 rcases A,B with⟨⟨rfl⟩,⟨rfl⟩⟩
 rw[QY];simp-dsimp only[↓QW,Xw,QV,func185,f185,Qff,qP,TP,TZ,seval];apply Ba k b i;intro k b i;simp-dsimp+contextual only[↓QW,eZ,seval]
 try simp only[ZX,eY]
 try simp only[List.contains_nil,Qi,Bool.and_true,T7,List.length_append,List.length_cons,List.length_nil,Nat.zero_add,th,jG]
 repeat rfl
end Go.Proofs.YtkgadcbajihilaaGreatDoor
