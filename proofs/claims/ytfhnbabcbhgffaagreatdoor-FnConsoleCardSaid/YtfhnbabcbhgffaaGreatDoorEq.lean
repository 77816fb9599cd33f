import Derived.Test.YtfhnbabcbhgffaaGreatDoorEq5
set_option maxHeartbeats 4000000
set_option linter.unusedVariables false
set_option linter.unusedSimpArgs false
set_option linter.defProp false
set_option maxRecDepth 100000
namespace Go.Proofs.YtfhnbabcbhgffaaGreatDoor
open Go Go.Proofs Go.Proofs.YtfhnbabcbhgffaaGreatDoor.Am Tryz
variable(n:Nat)
def L4(a a2){C s D s2}[A:QC VL C s][B:QC VL D s2]:LP T (n+1) 28 4 (Vm [(0,.imm 3 C),(1,.imm 3 D),(12,.i .i64 a),(13,.i .i64 a2)]) []=JR (run (Jr s s2 a) a2) (λzr=>(XE.ret,Vm [(4,.b zr)],[])) (λzr=>(XE.exit 0,Vm [],[])):=by
 rcases A,B with⟨⟨rfl⟩,⟨rfl⟩⟩
 rw[Vh];simp-dsimp only[↓QW,Zt,QX,func28,f28,QmV,xL,TP,TZ,seval];apply Q9 a2;intro a2;simp-dsimp+contextual only[↓QW,eZ,seval]
 try simp only[Jr,eY]
 repeat rfl
def Oj{C s D s2}[A:QC VL C s][B:QC VL D s2]:CP T (n+2) 28 [.imm 3 C,.imm 3 D]=(Ca s s2).map λr=>.b r:=by
 rcases A,B with⟨⟨rfl⟩,⟨rfl⟩⟩
 rw[QU];simp-dsimp+contextual only[↓QW,eZ,seval,func28,f28,QmV,xL,L4]
 try simp only[Ca,eY]
 repeat rfl
def KM(a a2){C s D s2}[A:QC Q1 C s][B:QC Q1 D s2]:LP T (n+1) 29 4 (Vm [(0,.imm 5 C),(1,.imm 5 D),(12,.i .i64 a),(13,.i .i64 a2)]) []=JR (run (Jg s s2 a) a2) (λzr=>(XE.ret,Vm [(4,.b zr)],[])) (λzr=>(XE.exit 0,Vm [],[])):=by
 rcases A,B with⟨⟨rfl⟩,⟨rfl⟩⟩
 rw[Vh];simp-dsimp only[↓QW,Zt,QX,func29,f29,Qi5,xD,TP,TZ,seval];apply Q9 a2;intro a2;simp-dsimp+contextual only[↓QW,eZ,seval]
 try simp only[Jg,eY]
 repeat rfl
def Nz{C s D s2}[A:QC Q1 C s][B:QC Q1 D s2]:CP T (n+2) 29 [.imm 5 C,.imm 5 D]=(Bt s s2).map λr=>.b r:=by
 rcases A,B with⟨⟨rfl⟩,⟨rfl⟩⟩
 rw[QU];simp-dsimp+contextual only[↓QW,eZ,seval,func29,f29,Qi5,xD,KM]
 try simp only[Bt,eY]
 repeat rfl
def KO(a a2){C s D s2}[A:QC VH C s][B:QC VH D s2]:LP T (n+1) 30 4 (Vm [(0,.imm 4 C),(1,.imm 4 D),(12,.i .i64 a),(13,.i .i64 a2)]) []=JR (run (Je s s2 a) a2) (λzr=>(XE.ret,Vm [(4,.b zr)],[])) (λzr=>(XE.exit 0,Vm [],[])):=by
 rcases A,B with⟨⟨rfl⟩,⟨rfl⟩⟩
 rw[Vh];simp-dsimp only[↓QW,Zt,QX,func30,f30,QlH,yg,TP,TZ,seval];apply Q9 a2;intro a2;simp-dsimp+contextual only[↓QW,eZ,seval]
 try simp only[Je,eY]
 repeat rfl
def MJ{C s D s2}[A:QC VH C s][B:QC VH D s2]:CP T (n+2) 30 [.imm 4 C,.imm 4 D]=(BA s s2).map λr=>.b r:=by
 rcases A,B with⟨⟨rfl⟩,⟨rfl⟩⟩
 rw[QU];simp-dsimp+contextual only[↓QW,eZ,seval,func30,f30,QlH,yg,KO]
 try simp only[BA,eY]
 repeat rfl
def Lw(a a2){C s D s2}[A:QC V0 C s][B:QC V0 D s2]:LP T (n+1) 31 4 (Vm [(0,.imm 5 C),(1,.imm 5 D),(12,.i .i64 a),(13,.i .i64 a2)]) []=JR (run (Jz s s2 a) a2) (λzr=>(XE.ret,Vm [(4,.b zr)],[])) (λzr=>(XE.exit 0,Vm [],[])):=by
 rcases A,B with⟨⟨rfl⟩,⟨rfl⟩⟩
 rw[Vh];simp-dsimp only[↓QW,Zt,QX,func31,f31,Qnk,yM,TP,TZ,seval];apply Q9 a2;intro a2;simp-dsimp+contextual only[↓QW,eZ,seval]
 try simp only[Jz,eY]
 repeat rfl
def Om{C s D s2}[A:QC V0 C s][B:QC V0 D s2]:CP T (n+2) 31 [.imm 5 C,.imm 5 D]=(Co s s2).map λr=>.b r:=by
 rcases A,B with⟨⟨rfl⟩,⟨rfl⟩⟩
 rw[QU];simp-dsimp+contextual only[↓QW,eZ,seval,func31,f31,Qnk,yM,Lw]
 try simp only[Co,eY]
 repeat rfl
def Lc(a a2){C s D s2}[A:QC VX C s][B:QC VX D s2]:LP T (n+1) 32 4 (Vm [(0,.imm 4 C),(1,.imm 4 D),(12,.i .i64 a),(13,.i .i64 a2)]) []=JR (run (Jc s s2 a) a2) (λzr=>(XE.ret,Vm [(4,.b zr)],[])) (λzr=>(XE.exit 0,Vm [],[])):=by
 rcases A,B with⟨⟨rfl⟩,⟨rfl⟩⟩
 rw[Vh];simp-dsimp only[↓QW,Zt,QX,func32,f32,QiS,za,TP,TZ,seval];apply Q9 a2;intro a2;simp-dsimp+contextual only[↓QW,eZ,seval]
 try simp only[Jc,eY]
 repeat rfl
def M0{C s D s2}[A:QC VX C s][B:QC VX D s2]:CP T (n+2) 32 [.imm 4 C,.imm 4 D]=(Bv s s2).map λr=>.b r:=by
 rcases A,B with⟨⟨rfl⟩,⟨rfl⟩⟩
 rw[QU];simp-dsimp+contextual only[↓QW,eZ,seval,func32,f32,QiS,za,Lc]
 try simp only[Bv,eY]
 repeat rfl
def IF{C a D b}[A:QD Vo C a][B:QD Vo D b]:CP T (n+7) 7 [.agg C,.agg D]=(ZZ a b).map λr=>.b r:=by
 rcases A,B with⟨⟨rfl⟩,⟨rfl⟩⟩
 rw[QU];simp-dsimp+contextual(maxSteps:=1000000)only[↓QW,eZ,seval,func7,f7,Aa7,An7,Ok,Oh,Oj,Nz,MJ,Om,M0]
 try simp only[ZZ,eY]
 repeat rfl
def KD(s i):LP T (n+1) 10 5 (Vm [(4,.s s),(5,.i .i64 i)]) []=(run X5 (s,i)).map (λzr=>(XE.exit 0,Vm [(4,.s zr)],[])):=by
 rw[Vh];simp-dsimp only[↓QW,Zt,QX,func10,f10,QfO,tq,TP,TZ,seval];apply VF s i;intro s i;simp-dsimp+contextual only[↓QW,eZ,seval,It]
 try simp only[X5,eY]
 repeat rfl
def IZ(s i){B c}[A:QD XO B c]:LP T (n+5) 10 12 (Vm [(3,.ptr 0 0 0),(4,.s s),(6,.i .i64 i)]) [some (.box B)]=(run XT (c,s,i)).map (λzr=>(XE.exit 2,Vm [(4,.s zr)],[])):=by
 obtain⟨rfl⟩:=A;rw[Vh];simp-dsimp only[↓QW,Zt,QX,func10,f10,QfO,tq,TP,TZ,seval];apply HC c s i;intro c s i;simp-dsimp+contextual only[↓QW,eZ,seval,It,MX]
 try simp only[XT,eY]
 repeat rfl
def MF{B c}[A:QC Hn B c]:CP T (n+6) 10 [.imm 1 B]=(AK c).map λr=>.s r:=by
 obtain⟨rfl⟩:=A;rw[QU];simp-dsimp+contextual only[↓QW,eZ,seval,func10,f10,QfO,tq,It,Sm,Kv,XB,KD,IZ]
 try simp only[AK,eY]
 repeat rfl
def Nl(axNo axNow a3 a4){J axFinds K axSecrets L axSlots M axClaims N axTrials O axChain P axBook Q o R a2}[A:QC Vx J axFinds][B:QC Vy K axSecrets][C:QC VL L axSlots][D:QC Q1 M axClaims][E:QC VH N axTrials][F:QC V0 O axChain][G:QC VX P axBook][H:QC IW Q o][I:QC IW R a2]:LP T (n+16) 11 8 (Vm [(5,.ptr 0 0 0),(6,.sl 8),(29,.imm 1 R),(30,.i .i64 a3),(31,.i .i64 a4)]) [some (.box [.i .i64 axNo,.sl 1,.sl 2,.sl 3,.sl 4,.sl 5,.sl 6,.sl 7,.i .i64 axNow]),some (.lst 8 J),some (.lst 3 K),some (.lst 3 L),some (.lst 5 M),some (.lst 4 N),some (.lst 5 O),some (.lst 4 P),some (.lst 1 Q)]=(run (XF a2 a3) ((⟨axNo,axFinds,axSecrets,axSlots,axClaims,axTrials,axChain,axBook,axNow⟩:Ql),o,a4)).map (λzr=>(XE.exit 0,Vm [(6,.sl 0)],[some (.lst 1 (zr.map IW))])):=by
 rcases A,B,C,D,E,F,G,H,I with⟨⟨rfl⟩,⟨rfl⟩,⟨rfl⟩,⟨rfl⟩,⟨rfl⟩,⟨rfl⟩,⟨rfl⟩,⟨rfl⟩,⟨rfl⟩⟩
 rw[Vh];simp-dsimp only[↓QW,Zt,QX,func11,f11,Qkh,ww,TP,TZ,seval];refine run_map (λ(zs:Ql×List (List UInt8)×Int)=>(Vm [(5,.ptr 0 0 0),(6,.sl 8),(29,.imm 1 (a2.map IW)),(30,.i .i64 a3),(31,.i .i64 zs.2.2)],[some (QE.box [.i .i64 zs.1.No,.sl 1,.sl 2,.sl 3,.sl 4,.sl 5,.sl 6,.sl 7,.i .i64 zs.1.Now]),some (QE.lst 8 (zs.1.Qt.map Vx)),some (QE.lst 3 (zs.1.Qn.map Vy)),some (QE.lst 3 (zs.1.Qs.map VL)),some (QE.lst 5 (zs.1.Qv.map Q1)),some (QE.lst 4 (zs.1.Qq.map VH)),some (QE.lst 5 (zs.1.Qw.map V0)),some (QE.lst 4 (zs.1.Book.map VX)),some (QE.lst 1 (zs.2.1.map IW))])) _ ?_ ((⟨axNo,axFinds,axSecrets,axSlots,axClaims,axTrials,axChain,axBook,axNow⟩:Ql),o,a4)
 rintro⟨a,o,a4⟩;simp-dsimp+contextual(maxSteps:=1000000)only[↓QW,eZ,seval,Gj]
 try simp only[XF,eY]
 repeat rfl
def Sq(a):CP T (n+17) 11 [.s a]=(BP a).map λr=>.tup [.own 1 (r.1.map IW),.b r.2]:=by
 rw[QU];simp-dsimp+contextual only[↓QW,eZ,seval,func11,f11,Qkh,ww,Gb,Nl]
 try simp only[BP,eY]
 all_goals first|rfl|(simp +contextual only[I1]<;>rfl)
def Ox(axNo axNow a3 a4){J c K axFinds L axSecrets M axSlots N axClaims O axTrials P axChain Q axBook R a2}[A:QC Hn J c][B:QC Vx K axFinds][C:QC Vy L axSecrets][D:QC VL M axSlots][E:QC Q1 N axClaims][F:QC VH O axTrials][G:QC V0 P axChain][H:QC VX Q axBook][I:QC IW R a2]:LP T (n+16) 3 8 (Vm [(0,.imm 1 J),(5,.ptr 0 0 0),(41,.sl 8),(42,.i .i64 a3),(43,.i .i64 a4)]) [some (.box [.i .i64 axNo,.sl 1,.sl 2,.sl 3,.sl 4,.sl 5,.sl 6,.sl 7,.i .i64 axNow]),some (.lst 8 K),some (.lst 3 L),some (.lst 3 M),some (.lst 5 N),some (.lst 4 O),some (.lst 5 P),some (.lst 4 Q),some (.lst 1 R)]=JR (run (JM c (⟨axNo,axFinds,axSecrets,axSlots,axClaims,axTrials,axChain,axBook,axNow⟩:Ql) a2 a3) a4) (λzr=>(XE.ret,Vm [(2,.b zr)],[])) (λzr=>(XE.exit 0,Vm [(0,.imm 1 (c.map Hn))],[])):=by
 rcases A,B,C,D,E,F,G,H,I with⟨⟨rfl⟩,⟨rfl⟩,⟨rfl⟩,⟨rfl⟩,⟨rfl⟩,⟨rfl⟩,⟨rfl⟩,⟨rfl⟩,⟨rfl⟩⟩
 rw[Vh];simp-dsimp only[↓QW,Zt,QX,func3,f3,Aa3,An3,TP,TZ,seval];apply Q9 a4;intro a4;simp-dsimp+contextual(maxSteps:=1000000)only[↓QW,eZ,seval,Gj,IF]
 try simp only[JM,eY]
 repeat rfl
def M9(a o2 l i){B o}[A:QC IW B o]:LP T (n+1) 3 20 (Vm [(11,.s a),(12,.sl 0),(13,.b o2),(14,.i .i64 l),(15,.i .i64 i)]) [some (.lst 1 B)]=(run (Zh a o o2) (l,i)).map (λzr=>(XE.exit 2,Vm [(12,.sl 0),(13,.b o2),(14,.i .i64 zr)],[some (.lst 1 (o.map IW))])):=by
 obtain⟨rfl⟩:=A;rw[Vh];simp-dsimp only[↓QW,Zt,QX,func3,f3,Aa3,An3,TP,TZ,seval];apply VF l i;intro l i;simp-dsimp+contextual only[↓QW,eZ,seval]
 try simp only[Zh,eY]
 repeat rfl
def Tz{B c}[A:QC Hn B c]:CP T (n+18) 3 [.imm 1 B]=(GC c).map λr=>.b r:=by
 obtain⟨rfl⟩:=A;rw[QU];simp-dsimp+contextual only[↓QW,eZ,seval,func3,f3,Aa3,An3,iG,L1,Gj,IF,Ia,Gc,MF,Sq,Ox,M9]
 try simp only[GC,eY]
 repeat rfl
end Go.Proofs.YtfhnbabcbhgffaaGreatDoor
