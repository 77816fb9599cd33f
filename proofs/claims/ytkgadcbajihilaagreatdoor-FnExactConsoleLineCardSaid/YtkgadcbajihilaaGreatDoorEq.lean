import Derived.Test.YtkgadcbajihilaaGreatDoorEq7
set_option maxHeartbeats 4000000
set_option linter.unusedVariables false
set_option linter.unusedSimpArgs false
set_option linter.defProp false
set_option maxRecDepth 100000
namespace Go.Proofs.YtkgadcbajihilaaGreatDoor
open Go Go.Proofs Go.Proofs.YtkgadcbajihilaaGreatDoor.Am Tryz
variable(n:Nat)
def Wu(k){B a}[A:QC Xb B a]:CP T (n+2) 165 [.imm 2 B,.i .i64 k]=(Fn a k).map λr=>.i .i64 r:=by
 obtain⟨rfl⟩:=A;rw[QM];simp-dsimp+contextual only[↓QW,eZ,seval,func165,f165,Qfr,pp,Px]
 try simp only[Fn,eY]
 repeat rfl
def M6(k i){B a}[A:QC VC B a]:LP T (n+3) 64 2 (Q7 [(0,.imm 3 B),(1,.i .i64 k),(5,.i .i64 i)]) []=Xt (run (Zj a) (k,i)) (λzr=>(XE.ret,Q7 [(4,.i .i64 zr)],[])) (λzr=>(XE.exit 0,Q7 [(1,.i .i64 zr)],[])):=by
 obtain⟨rfl⟩:=A;rw[QY];simp-dsimp only[↓QW,Xw,QV,func64,f64,QnP,Qep,TP,TZ,seval];apply Q2 k i;intro k i;simp-dsimp+contextual only[↓QW,eZ,seval,Wu]
 try simp only[Zj,eY]
 repeat rfl
def RK(k){B a}[A:QC VC B a]:CP T (n+4) 64 [.imm 3 B,.i .i64 k]=(Dh a k).map λr=>.i .i64 r:=by
 obtain⟨rfl⟩:=A;rw[QM];simp-dsimp+contextual only[↓QW,eZ,seval,func64,f64,QnP,Qep,M6]
 try simp only[Dh,eY]
 repeat rfl
def OX(k i){B a}[A:QC VA B a]:LP T (n+1) 65 2 (Q7 [(0,.imm 3 B),(1,.i .i64 k),(5,.i .i64 i)]) []=Xt (run (Az a) (k,i)) (λzr=>(XE.ret,Q7 [(4,.i .i64 zr)],[])) (λzr=>(XE.exit 0,Q7 [(1,.i .i64 zr)],[])):=by
 obtain⟨rfl⟩:=A;rw[QY];simp-dsimp only[↓QW,Xw,QV,func65,f65,Qlz,QdB,TP,TZ,seval];apply Q2 k i;intro k i;simp-dsimp+contextual only[↓QW,eZ,seval]
 try simp only[Az,eY]
 repeat rfl
def Ux(k){B a}[A:QC VA B a]:CP T (n+2) 65 [.imm 3 B,.i .i64 k]=(FA a k).map λr=>.i .i64 r:=by
 obtain⟨rfl⟩:=A;rw[QM];simp-dsimp+contextual only[↓QW,eZ,seval,func65,f65,Qlz,QdB,OX]
 try simp only[FA,eY]
 repeat rfl
def NX(k i){B a}[A:QC QZ B a]:LP T (n+1) 66 2 (Q7 [(0,.imm 5 B),(1,.i .i64 k),(5,.i .i64 i)]) []=Xt (run (ZD a) (k,i)) (λzr=>(XE.ret,Q7 [(4,.i .i64 zr)],[])) (λzr=>(XE.exit 0,Q7 [(1,.i .i64 zr)],[])):=by
 obtain⟨rfl⟩:=A;rw[QY];simp-dsimp only[↓QW,Xw,QV,func66,f66,Qn8,Qet,TP,TZ,seval];apply Q2 k i;intro k i;simp-dsimp+contextual only[↓QW,eZ,seval]
 try simp only[ZD,eY]
 repeat rfl
def SO(k){B a}[A:QC QZ B a]:CP T (n+2) 66 [.imm 5 B,.i .i64 k]=(Eh a k).map λr=>.i .i64 r:=by
 obtain⟨rfl⟩:=A;rw[QM];simp-dsimp+contextual only[↓QW,eZ,seval,func66,f66,Qn8,Qet,NX]
 try simp only[Eh,eY]
 repeat rfl
def N0(k i){B a}[A:QC Vq B a]:LP T (n+1) 67 2 (Q7 [(0,.imm 4 B),(1,.i .i64 k),(5,.i .i64 i)]) []=Xt (run (ZL a) (k,i)) (λzr=>(XE.ret,Q7 [(4,.i .i64 zr)],[])) (λzr=>(XE.exit 0,Q7 [(1,.i .i64 zr)],[])):=by
 obtain⟨rfl⟩:=A;rw[QY];simp-dsimp only[↓QW,Xw,QV,func67,f67,Qmg,QbV,TP,TZ,seval];apply Q2 k i;intro k i;simp-dsimp+contextual only[↓QW,eZ,seval]
 try simp only[ZL,eY]
 repeat rfl
def SG(k){B a}[A:QC Vq B a]:CP T (n+2) 67 [.imm 4 B,.i .i64 k]=(Em a k).map λr=>.i .i64 r:=by
 obtain⟨rfl⟩:=A;rw[QM];simp-dsimp+contextual only[↓QW,eZ,seval,func67,f67,Qmg,QbV,N0]
 try simp only[Em,eY]
 repeat rfl
def Pk(k i){B a}[A:QC Vv B a]:LP T (n+1) 68 2 (Q7 [(0,.imm 5 B),(1,.i .i64 k),(5,.i .i64 i)]) []=Xt (run (Ar a) (k,i)) (λzr=>(XE.ret,Q7 [(4,.i .i64 zr)],[])) (λzr=>(XE.exit 0,Q7 [(1,.i .i64 zr)],[])):=by
 obtain⟨rfl⟩:=A;rw[QY];simp-dsimp only[↓QW,Xw,QV,func68,f68,QrI,Qbr,TP,TZ,seval];apply Q2 k i;intro k i;simp-dsimp+contextual only[↓QW,eZ,seval]
 try simp only[Ar,eY]
 repeat rfl
def UH(k){B a}[A:QC Vv B a]:CP T (n+2) 68 [.imm 5 B,.i .i64 k]=(Fq a k).map λr=>.i .i64 r:=by
 obtain⟨rfl⟩:=A;rw[QM];simp-dsimp+contextual only[↓QW,eZ,seval,func68,f68,QrI,Qbr,Pk]
 try simp only[Fq,eY]
 repeat rfl
def Oc(k i){B a}[A:QC Vx B a]:LP T (n+1) 69 2 (Q7 [(0,.imm 4 B),(1,.i .i64 k),(5,.i .i64 i)]) []=Xt (run (ZF a) (k,i)) (λzr=>(XE.ret,Q7 [(4,.i .i64 zr)],[])) (λzr=>(XE.exit 0,Q7 [(1,.i .i64 zr)],[])):=by
 obtain⟨rfl⟩:=A;rw[QY];simp-dsimp only[↓QW,Xw,QV,func69,f69,QoG,QbT,TP,TZ,seval];apply Q2 k i;intro k i;simp-dsimp+contextual only[↓QW,eZ,seval]
 try simp only[ZF,eY]
 repeat rfl
def S4(k){B a}[A:QC Vx B a]:CP T (n+2) 69 [.imm 4 B,.i .i64 k]=(El a k).map λr=>.i .i64 r:=by
 obtain⟨rfl⟩:=A;rw[QM];simp-dsimp+contextual only[↓QW,eZ,seval,func69,f69,QoG,QbT,Oc]
 try simp only[El,eY]
 repeat rfl
def Wp(k){B a}[A:QD Va B a]:CP T (n+5) 10 [.agg B,.i .i64 k]=(BS a k).map λr=>.i .i64 r:=by
 obtain⟨rfl⟩:=A;rw[QM];simp-dsimp+contextual(maxSteps:=1000000)only[↓QW,eZ,seval,func10,f10,Qx1,Qju,Ut,RK,Ux,SO,SG,UH,S4]
 try simp only[BS,eY]
 repeat rfl
def KL(a2){B a}[A:QD Va B a]:CP T (n+16) 3 [.agg B,.s a2]=(As a a2).map λr=>.b r:=by
 obtain⟨rfl⟩:=A;rw[QM];simp-dsimp+contextual(maxSteps:=1000000)only[↓QW,eZ,seval,func3,f3,Aa3,An3,Ni,cG,bK,PP,Rb,bD,Wo,Wp]
 try simp only[As,eY]
 repeat rfl
end Go.Proofs.YtkgadcbajihilaaGreatDoor
