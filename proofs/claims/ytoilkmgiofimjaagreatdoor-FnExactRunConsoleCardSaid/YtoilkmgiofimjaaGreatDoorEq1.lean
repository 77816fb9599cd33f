import Derived.Test.YtoilkmgiofimjaaGreatDoorEc
namespace Go.Proofs.YtoilkmgiofimjaaGreatDoor
open Go Go.Proofs Go.Proofs.YtoilkmgiofimjaaGreatDoor.Am Tryz
set_option maxHeartbeats 4000000
set_option linter.unusedVariables false
set_option linter.unusedSimpArgs false
set_option linter.defProp false
set_option maxRecDepth 100000
variable(n:Nat)
theorem NK(l w i){R1 o}[H1:EncL c_s R1 o]:LP T (n+1) 13 4 (frm [(0,.s l),(3,.sl 0),(4,.s w),(5,.i .i64 i)]) [some (Ent.lst 1 R1)] =
  (run (XI l) (o,w,i)).map (λ(zr:(List (List UInt8)))=>(XE.exit 0,frm [(3,.sl 0)],[some (Ent.lst 1 (zr.map c_s))])):=by
 obtain⟨rfl⟩:=H1;rw[Qw];simp -dsimp only[↓evA,evB,Qt,func13,f13,QnB,uw,TP,TZ,simprocAttr];apply E7 o w i;intro o w i;simp -dsimp +contextual only[↓evA,eZ,simprocAttr]
 try simp only[XI,eY]
 all_goals rfl
theorem Tk(l):CP T (n+2) 13 [.s l]=(E4 l).map λr=>.own 1 (r.map c_s):=by
 rw[Qp];simp -dsimp +contextual only[↓evA,eZ,simprocAttr,func13,f13,QnB,uw,NK]
 try simp only[E4,eY]
 all_goals first|rfl|(simp +contextual only[evN]<;>rfl)
theorem Oy(i){R1 l R2 o}[H1:EncL VR R1 l][H2:EncL Vk R2 o]:LP T (n+1) 37 3 (frm [(0,.imm 3 R1),(3,.sl 0),(4,.i .i64 i)]) [some (Ent.lst 3 R2)] =
  (run (Z8 l) (o,i)).map (λ(zr:(List Secret))=>(XE.exit 0,frm [(3,.sl 0)],[some (Ent.lst 3 (zr.map Vk))])):=by
 rcases H1,H2 with⟨⟨rfl⟩,⟨rfl⟩⟩
 rw[Qw];simp -dsimp only[↓evA,evB,Qt,func37,f37,Qfv,qY,TP,TZ,simprocAttr];apply QO o i;intro o i;simp -dsimp +contextual only[↓evA,eZ,simprocAttr]
 try simp only[Z8,eY]
 all_goals rfl
theorem Ln{R1 l}[H1:EncL VR R1 l]:CP T (n+2) 37 [.imm 3 R1]=(Jd l).map λr=>.own 3 (r.map Vk):=by
 obtain⟨rfl⟩:=H1;rw[Qp];simp -dsimp +contextual only[↓evA,eZ,simprocAttr,func37,f37,Qfv,qY,Oy]
 try simp only[Jd,eY]
 all_goals first|rfl|(simp +contextual only[evN]<;>rfl)
theorem Xe{R1 a}[H1:EncR QJ R1 a]:CP T (n+3) 14 [.agg R1]=(QU a).map λr=>.agg (VW r):=by
 obtain⟨rfl⟩:=H1;rw[Qp];simp -dsimp +contextual (maxSteps:=100000000) only[↓evA,eZ,simprocAttr,func14,f14,Qqw,xu,Ln]
 try simp only[QU,eY]
 all_goals rfl
theorem Q0(a l m):CP T (n+1) 119 [.i .i64 a,.i .i64 l,.i .i64 m]=(Qq a l m).map λr=>.b r:=by
 rw[Qp];simp -dsimp +contextual only[↓evA,eZ,simprocAttr,func119,f119,Qhq,kN]
 try simp only[Qq,eY]
 all_goals rfl
theorem KL(k):CP T (n+2) 118 [.i .i64 k]=(Dx k).map λr=>.s r:=by
 rw[Qp];simp -dsimp +contextual only[↓evA,eZ,simprocAttr,func118,f118,Qne,kW,Q0]
 try simp only[Dx,eY]
 all_goals rfl
theorem RX(s k):LP T (n+3) 38 2 (frm [(0,.s s),(3,.i .i64 k)]) [] =
  Xy (run (D3 s) k) (λ(zr:Int)=>(XE.ret,frm [(2,.i .i64 zr)],[])) (λ(zr:Unit)=>(XE.exit 0,frm [],[])):=by
 rw[Qw];simp -dsimp only[↓evA,evB,Qt,func38,f38,Qip,tM,TP,TZ,simprocAttr];apply QB k;intro k;simp -dsimp +contextual only[↓evA,eZ,simprocAttr,KL]
 try simp only[D3,eY]
 all_goals rfl
theorem Nd(s):CP T (n+4) 38 [.s s]=(BF s).map λr=>.i .i64 r:=by
 rw[Qp];simp -dsimp +contextual only[↓evA,eZ,simprocAttr,func38,f38,Qip,tM,RX]
 try simp only[BF,eY]
 all_goals rfl
theorem Mw(a s a2):LP T (n+1) 44 5 (frm [(0,.i .i64 a),(3,.s s),(4,.i .i64 a2)]) [] =
  (run (JI a) (s,a2)).map (λ(zr:(List UInt8))=>(XE.exit 0,frm [(0,.i .i64 a),(3,.s zr)],[])):=by
 rw[Qw];simp -dsimp only[↓evA,evB,Qt,func44,f44,Qni,qJ,TP,TZ,simprocAttr];apply QO s a2;intro s a2;simp -dsimp +contextual only[↓evA,eZ,simprocAttr]
 try simp only[JI,eY]
 all_goals rfl
theorem XJ(a):CP T (n+2) 44 [.i .i64 a]=(Qv a).map λr=>.s r:=by
 rw[Qp];simp -dsimp +contextual only[↓evA,eZ,simprocAttr,func44,f44,Qni,qJ,Mw]
 try simp only[Qv,eY]
 all_goals rfl
theorem NL(s a i):LP T (n+2) 40 5 (frm [(0,.s s),(4,.i .i64 a),(5,.i .i64 i)]) [] =
  Xy (run (AJ s) (a,i)) (λ(zr:Int×Bool)=>(XE.ret,frm [(2,.i .i64 zr.1),(3,.b zr.2)],[])) (λ(zr:Int)=>(XE.exit 0,frm [(0,.s s),(4,.i .i64 zr)],[])):=by
 rw[Qw];simp -dsimp only[↓evA,evB,Qt,func40,f40,QeI,qA,TP,TZ,simprocAttr];apply QO a i;intro a i;simp -dsimp +contextual only[↓evA,eZ,simprocAttr,Q0]
 try simp only[AJ,eY]
 all_goals rfl
theorem Fm(s):CP T (n+3) 40 [.s s]=(Zw s).map λr=>.tup [.i .i64 r.1,.b r.2]:=by
 rw[Qp];simp -dsimp +contextual only[↓evA,eZ,simprocAttr,func40,f40,QeI,qA,Q0,XJ,NL]
 try simp only[Zw,eY]
 all_goals rfl
theorem Pu(i){R1 w R2 o}[H1:EncL c_s R1 w][H2:EncL QA R2 o]:LP T (n+4) 19 3 (frm [(0,.imm 1 R1),(4,.sl 0),(5,.i .i64 i)]) [some (Ent.lst 1 R2)] =
  Xy (run (BA w) (o,i)) (λ(zr:(List Int)×Bool)=>(XE.ret,frm [(2,.sl 0),(3,.b zr.2)],[some (Ent.lst 1 (zr.1.map QA))])) (λ(zr:(List Int))=>(XE.exit 0,frm [(4,.sl 0)],[some (Ent.lst 1 (zr.map QA))])):=by
 rcases H1,H2 with⟨⟨rfl⟩,⟨rfl⟩⟩
 rw[Qw];simp -dsimp only[↓evA,evB,Qt,func19,f19,Qlk,qD,TP,TZ,simprocAttr];apply QO o i;intro o i;simp -dsimp +contextual only[↓evA,eZ,simprocAttr,Fm]
 try simp only[BA,eY]
 all_goals rfl
theorem LR{R1 w}[H1:EncL c_s R1 w]:CP T (n+5) 19 [.imm 1 R1]=(Zr w).map λr=>.tup [.own 1 (r.1.map QA),.b r.2]:=by
 obtain⟨rfl⟩:=H1;rw[Qp];simp -dsimp +contextual only[↓evA,eZ,simprocAttr,func19,f19,Qlk,qD,Pu]
 try simp only[Zr,eY]
 all_goals first|rfl|(simp +contextual only[evN]<;>rfl)
theorem U5{R1 w}[H1:EncL c_s R1 w]:CP T (n+6) 15 [.imm 1 R1]=(Jc w).map λr=>.agg (Mr r):=by
 obtain⟨rfl⟩:=H1;rw[Qp];simp -dsimp +contextual only[↓evA,eZ,Nat.reduceAdd,Nat.reduceMul,Nat.reduceBEq,Nat.reduceLeDiff,Nat.reduceLT,func15,f15,Qri,vo,Nd,LR]
 try simp only[Jc,eY]
 try simp only[List.contains_nil,Qi,Bool.and_true,Vx,List.length_append,List.length_cons,List.length_nil,Nat.zero_add,Vn,VJ]
 all_goals rfl
theorem N7(s b a i){R1 o}[H1:EncL c_s R1 o]:LP T (n+1) 39 4 (frm [(0,.s s),(1,.i .u8 b),(5,.sl 0),(6,.i .i64 a),(7,.i .i64 i)]) [some (Ent.lst 1 R1)] =
  (run (JA s b) (o,a,i)).map (λ(zr:(List (List UInt8)))=>(XE.exit 0,frm [(5,.sl 0)],[some (Ent.lst 1 (zr.map c_s))])):=by
 obtain⟨rfl⟩:=H1;rw[Qw];simp -dsimp only[↓evA,evB,Qt,func39,f39,Qfb,pK,TP,TZ,simprocAttr];apply E7 o a i;intro o a i;simp -dsimp +contextual only[↓evA,eZ,simprocAttr]
 try simp only[JA,eY]
 all_goals rfl
theorem GK(s b):CP T (n+2) 39 [.s s,.i .u8 b]=(JD s b).map λr=>.own 1 (r.map c_s):=by
 rw[Qp];simp -dsimp +contextual only[↓evA,eZ,simprocAttr,func39,f39,Qfb,pK,N7]
 try simp only[JD,eY]
 all_goals first|rfl|(simp +contextual only[evN]<;>rfl)
theorem Np(s i){R1 l}[H1:EncL QA R1 l]:LP T (n+3) 120 3 (frm [(0,.imm 1 R1),(3,.s s),(4,.i .i64 i)]) [] =
  (run (AI l) (s,i)).map (λ(zr:(List UInt8))=>(XE.exit 0,frm [(0,.imm 1 (l.map QA)),(3,.s zr)],[])):=by
 obtain⟨rfl⟩:=H1;rw[Qw];simp -dsimp only[↓evA,evB,Qt,func120,f120,zI,eU,TP,TZ,simprocAttr];apply QO s i;intro s i;simp -dsimp +contextual only[↓evA,eZ,simprocAttr,XJ]
 try simp only[AI,eY]
 all_goals rfl
theorem KI{R1 l}[H1:EncL QA R1 l]:CP T (n+4) 120 [.imm 1 R1]=(Ar l).map λr=>.s r:=by
 obtain⟨rfl⟩:=H1;rw[Qp];simp -dsimp +contextual only[↓evA,eZ,simprocAttr,func120,f120,zI,eU,Np]
 try simp only[Ar,eY]
 all_goals rfl
theorem MR(s i){R1 o R2 l}[H1:EncL QA R1 o][H2:EncL c_s R2 l]:LP T (n+4) 41 6 (frm [(0,.s s),(4,.sl 0),(5,.sl 1),(6,.i .i64 i)]) [some (Ent.lst 1 R1),some (Ent.lst 1 R2)] =
  Xy (run (ZU s l) (o,i)) (λ(zr:(List Int)×Bool)=>(XE.ret,frm [(2,.sl 0),(3,.b zr.2)],[some (Ent.lst 1 (zr.1.map QA))])) (λ(zr:(List Int))=>(XE.exit 0,frm [(0,.s s),(4,.sl 0)],[some (Ent.lst 1 (zr.map QA))])):=by
 rcases H1,H2 with⟨⟨rfl⟩,⟨rfl⟩⟩
 rw[Qw];simp -dsimp only[↓evA,evB,Qt,func41,f41,QgA,rU,TP,TZ,simprocAttr];apply QO o i;intro o i;simp -dsimp +contextual only[↓evA,eZ,simprocAttr,Fm]
 try simp only[ZU,eY]
 all_goals rfl
theorem Rw(s):CP T (n+5) 41 [.s s]=(Cf s).map λr=>.tup [.own 1 (r.1.map QA),.b r.2]:=by
 rw[Qp];simp -dsimp +contextual only[↓evA,eZ,simprocAttr,func41,f41,QgA,rU,GK,KI,MR]
 try simp only[Cf,eY]
 all_goals first|rfl|(simp +contextual only[evN]<;>rfl)
theorem Yr(s):CP T (n+4) 42 [.s s]=(FE s).map λr=>.tup [.i .i64 r.1,.i .i64 r.2.1,.b r.2.2]:=by
 rw[Qp];simp -dsimp +contextual only[↓evA,eZ,Nat.reduceAdd,Nat.reduceMul,Nat.reduceBEq,Nat.reduceLeDiff,Nat.reduceLT,func42,f42,Qs9,xW,GK,Fm]
 try simp only[FE,eY]
 all_goals rfl
theorem Th(l2 a i){R1 l}[H1:EncL QA R1 l]:LP T (n+2) 210 2 (frm [(0,.imm 1 R1),(1,.i .i64 l2),(2,.i .i64 a),(7,.i .i64 i)]) [] =
  Xy (run (DI l l2 a) i) (λ(zr:Bool)=>(XE.ret,frm [(6,.b zr)],[])) (λ(zr:Unit)=>(XE.exit 0,frm [],[])):=by
 obtain⟨rfl⟩:=H1;rw[Qw];simp -dsimp only[↓evA,evB,Qt,func210,f210,QaI,fT,TP,TZ,simprocAttr];apply QB i;intro i;simp -dsimp +contextual only[↓evA,eZ,simprocAttr,Q0]
 try simp only[DI,eY]
 all_goals rfl
theorem bX(l2 a){R1 l}[H1:EncL QA R1 l]:CP T (n+3) 210 [.imm 1 R1,.i .i64 l2,.i .i64 a]=(Gd l l2 a).map λr=>.b r:=by
 obtain⟨rfl⟩:=H1;rw[Qp];simp -dsimp +contextual only[↓evA,eZ,simprocAttr,func210,f210,QaI,fT,Th]
 try simp only[Gd,eY]
 all_goals rfl
theorem Yf{R1 s}[H1:EncR Uf R1 s]:CP T (n+2) 211 [.agg R1]=(HG s).map λr=>.b r:=by
 obtain⟨rfl⟩:=H1;rw[Qp];simp -dsimp +contextual only[↓evA,eZ,simprocAttr,func211,f211,QiD,mA,Q0]
 try simp only[HG,eY]
 all_goals rfl
theorem Kw{R1 r}[H1:EncR CU R1 r]:CP T (n+4) 121 [.agg R1]=(Ax r).map λr=>.b r:=by
 obtain⟨rfl⟩:=H1;rw[Qp];simp -dsimp +contextual only[↓evA,eZ,simprocAttr,func121,f121,Qgu,jV,Q0,bX,Yf]
 try simp only[Ax,eY]
 all_goals rfl
theorem OU{R1 r}[H1:EncR CU R1 r]:CP T (n+5) 43 [.agg R1]=(Dn r).map λr=>.s r:=by
 obtain⟨rfl⟩:=H1;rw[Qp];simp -dsimp +contextual only[↓evA,eZ,simprocAttr,func43,f43,Qo9,xb,Kw,XJ,KL,KI]
 try simp only[Dn,eY]
 all_goals rfl
theorem Ok(s):CP T (n+6) 16 [.s s]=(AZ s).map λr=>.tup [.agg (IN r.1),.b r.2]:=by
 rw[Qp];simp -dsimp +contextual only[↓evA,eZ,Nat.reduceAdd,Nat.reduceMul,Nat.reduceBEq,Nat.reduceLeDiff,Nat.reduceLT,func16,f16,Qph,vL,GK,Fm,Rw,Yr,Nd,OU]
 try simp only[AZ,eY]
 all_goals rfl
theorem Hj{R1 a}[H1:EncR ER R1 a]:CP T (n+2) 212 [.agg R1]=(XM a).map λr=>.b r:=by
 obtain⟨rfl⟩:=H1;rw[Qp];simp -dsimp +contextual only[↓evA,eZ,simprocAttr,func212,f212,QjY,kr,Q0]
 try simp only[XM,eY]
 all_goals rfl
theorem Gm{R1 f}[H1:EncR Q4 R1 f]:CP T (n+3) 122 [.agg R1]=(Xj f).map λr=>.b r:=by
 obtain⟨rfl⟩:=H1;rw[Qp];simp -dsimp +contextual only[↓evA,eZ,simprocAttr,func122,f122,Qk8,kL,Hj,Q0]
 try simp only[Xj,eY]
 all_goals rfl
theorem Nl(i){R1 l}[H1:EncL Q4 R1 l]:LP T (n+4) 46 2 (frm [(0,.imm 8 R1),(3,.i .i64 i)]) [] =
  Xy (run (Ve l) i) (λ(zr:Bool)=>(XE.ret,frm [(2,.b zr)],[])) (λ(zr:Unit)=>(XE.exit 0,frm [(0,.imm 8 (l.map Q4))],[])):=by
 obtain⟨rfl⟩:=H1;rw[Qw];simp -dsimp only[↓evA,evB,Qt,func46,f46,QeW,qr,TP,TZ,simprocAttr];apply QB i;intro i;simp -dsimp +contextual only[↓evA,eZ,simprocAttr,Gm]
 try simp only[Ve,eY]
 all_goals rfl
theorem GG{R1 l}[H1:EncL Q4 R1 l]:CP T (n+5) 46 [.imm 8 R1]=(X7 l).map λr=>.b r:=by
 obtain⟨rfl⟩:=H1;rw[Qp];simp -dsimp +contextual only[↓evA,eZ,simprocAttr,func46,f46,QeW,qr,Nl]
 try simp only[X7,eY]
 all_goals rfl
theorem S5(a i){R1 l}[H1:EncL QA R1 l]:LP T (n+1) 213 2 (frm [(0,.imm 1 R1),(1,.i .i64 a),(5,.i .i64 i)]) [] =
  Xy (run (DD l a) i) (λ(zr:Bool)=>(XE.ret,frm [(4,.b zr)],[])) (λ(zr:Unit)=>(XE.exit 0,frm [],[])):=by
 obtain⟨rfl⟩:=H1;rw[Qw];simp -dsimp only[↓evA,evB,Qt,func213,f213,zk,ex,TP,TZ,simprocAttr];apply QB i;intro i;simp -dsimp +contextual only[↓evA,eZ,simprocAttr]
 try simp only[DD,eY]
 all_goals rfl
theorem Kc(a){R1 l}[H1:EncL QA R1 l]:CP T (n+2) 213 [.imm 1 R1,.i .i64 a]=(C0 l a).map λr=>.b r:=by
 obtain⟨rfl⟩:=H1;rw[Qp];simp -dsimp +contextual only[↓evA,eZ,simprocAttr,func213,f213,zk,ex,S5]
 try simp only[C0,eY]
 all_goals rfl
theorem W9{R1 r R2 f}[H1:EncR CU R1 r][H2:EncR Q4 R2 f]:CP T (n+5) 123 [.agg R1,.agg R2]=(Gw r f).map λr=>.s r:=by
 rcases H1,H2 with⟨⟨rfl⟩,⟨rfl⟩⟩
 rw[Qp];simp -dsimp +contextual only[↓evA,eZ,simprocAttr,func123,f123,Qli,jr,Kw,Gm,Kc,Q0]
 try simp only[Gw,eY]
 all_goals rfl
theorem bY{R1 r R2 f}[H1:EncR CU R1 r][H2:EncR Q4 R2 f]:CP T (n+6) 47 [.agg R1,.agg R2]=(Fq r f).map λr=>.b r:=by
 rcases H1,H2 with⟨⟨rfl⟩,⟨rfl⟩⟩
 rw[Qp];simp -dsimp +contextual only[↓evA,eZ,simprocAttr,func47,f47,Qo6,xn,W9]
 try simp only[Fq,eY]
 all_goals rfl
theorem LL(i){R1 l R2 r R3 o}[H1:EncL Q4 R1 l][H2:EncR CU R2 r][H3:EncL QA R3 o]:LP T (n+7) 18 3 (frm [(1,.imm 8 R1),(2,.ptr 0 0 0),(5,.sl 1),(6,.i .i64 i)]) [some (Ent.box R2),some (Ent.lst 1 R3)] =
  (run (Jm l r) (o,i)).map (λ(zr:(List Int))=>(XE.exit 0,frm [(5,.sl 0)],[some (Ent.lst 1 (zr.map QA))])):=by
 rcases H1,H2,H3 with⟨⟨rfl⟩,⟨rfl⟩,⟨rfl⟩⟩
 rw[Qw];simp -dsimp only[↓evA,evB,Qt,func18,f18,Qgl,tC,TP,TZ,simprocAttr];apply QO o i;intro o i;simp -dsimp +contextual only[↓evA,eZ,simprocAttr,GG,bY]
 try simp only[Jm,eY]
 all_goals rfl
theorem OF{R1 r R2 l}[H1:EncR CU R1 r][H2:EncL Q4 R2 l]:CP T (n+8) 18 [.agg R1,.imm 8 R2]=(Br r l).map λr=>.own 1 (r.map QA):=by
 rcases H1,H2 with⟨⟨rfl⟩,⟨rfl⟩⟩
 rw[Qp];simp -dsimp +contextual only[↓evA,eZ,simprocAttr,func18,f18,Qgl,tC,LL]
 try simp only[Br,eY]
 all_goals first|rfl|(simp +contextual only[evN]<;>rfl)
theorem Pp(s i){R1 l}[H1:EncL c_s R1 l]:LP T (n+1) 45 3 (frm [(0,.imm 1 R1),(3,.s s),(4,.i .i64 i)]) [] =
  (run (Bs l) (s,i)).map (λ(zr:(List UInt8))=>(XE.exit 0,frm [(0,.imm 1 (l.map c_s)),(3,.s zr)],[])):=by
 obtain⟨rfl⟩:=H1;rw[Qw];simp -dsimp only[↓evA,evB,Qt,func45,f45,Qmi,tj,TP,TZ,simprocAttr];apply QO s i;intro s i;simp -dsimp +contextual only[↓evA,eZ,simprocAttr]
 try simp only[Bs,eY]
 all_goals rfl
theorem He{R1 l}[H1:EncL c_s R1 l]:CP T (n+2) 45 [.imm 1 R1]=(CX l).map λr=>.s r:=by
 obtain⟨rfl⟩:=H1;rw[Qp];simp -dsimp +contextual only[↓evA,eZ,simprocAttr,func45,f45,Qmi,tj,Pp]
 try simp only[CX,eY]
 all_goals rfl
theorem IA(i){R1 l R2 o}[H1:EncL QA R1 l][H2:EncL c_s R2 o]:LP T (n+3) 17 3 (frm [(0,.imm 1 R1),(3,.sl 0),(4,.i .i64 i)]) [some (Ent.lst 1 R2)] =
  (run (XZ l) (o,i)).map (λ(zr:(List (List UInt8)))=>(XE.exit 0,frm [(3,.sl 0)],[some (Ent.lst 1 (zr.map c_s))])):=by
 rcases H1,H2 with⟨⟨rfl⟩,⟨rfl⟩⟩
 rw[Qw];simp -dsimp only[↓evA,evB,Qt,func17,f17,QhL,pN,TP,TZ,simprocAttr];apply QO o i;intro o i;simp -dsimp +contextual only[↓evA,eZ,simprocAttr,XJ]
 try simp only[XZ,eY]
 all_goals rfl
theorem Ec{R1 l}[H1:EncL QA R1 l]:CP T (n+4) 17 [.imm 1 R1]=(Xz l).map λr=>.s r:=by
 obtain⟨rfl⟩:=H1;rw[Qp];simp -dsimp +contextual only[↓evA,eZ,simprocAttr,func17,f17,QhL,pN,He,IA]
 try simp only[Xz,eY]
 all_goals rfl
theorem M7:CP T (n+1) 21 []=(spec_ExampleSlots).map λr=>.own 3 (r.map VD):=by
 rw[Qp];simp -dsimp +contextual only[↓evA,eZ,simprocAttr,func21,f21,QsO,xO]
 try simp only[spec_ExampleSlots,eY]
 all_goals first|rfl|(simp +contextual only[evN]<;>rfl)
theorem NI(i){R1 l}[H1:EncL X5 R1 l]:LP T (n+2) 214 2 (frm [(0,.imm 2 R1),(3,.i .i64 i)]) [] =
  Xy (run (Jz l) i) (λ(zr:Bool)=>(XE.ret,frm [(2,.b zr)],[])) (λ(zr:Unit)=>(XE.exit 0,frm [(0,.imm 2 (l.map X5))],[])):=by
 obtain⟨rfl⟩:=H1;rw[Qw];simp -dsimp only[↓evA,evB,Qt,func214,f214,Qas,ga,TP,TZ,simprocAttr];apply QB i;intro i;simp -dsimp +contextual only[↓evA,eZ,simprocAttr,Q0]
 try simp only[Jz,eY]
 all_goals rfl
theorem GF{R1 l}[H1:EncL X5 R1 l]:CP T (n+3) 214 [.imm 2 R1]=(Az l).map λr=>.b r:=by
 obtain⟨rfl⟩:=H1;rw[Qp];simp -dsimp +contextual only[↓evA,eZ,simprocAttr,func214,f214,Qas,ga,NI]
 try simp only[Az,eY]
 all_goals rfl
theorem LK(i){R1 l}[H1:EncL VR R1 l]:LP T (n+4) 124 2 (frm [(0,.imm 3 R1),(3,.i .i64 i)]) [] =
  Xy (run (Jl l) i) (λ(zr:Bool)=>(XE.ret,frm [(2,.b zr)],[])) (λ(zr:Unit)=>(XE.exit 0,frm [(0,.imm 3 (l.map VR))],[])):=by
 obtain⟨rfl⟩:=H1;rw[Qw];simp -dsimp only[↓evA,evB,Qt,func124,f124,Qan,e8,TP,TZ,simprocAttr];apply QB i;intro i;simp -dsimp +contextual only[↓evA,eZ,simprocAttr,Q0,GF]
 try simp only[Jl,eY]
 all_goals rfl
theorem HP{R1 l}[H1:EncL VR R1 l]:CP T (n+5) 124 [.imm 3 R1]=(Z3 l).map λr=>.b r:=by
 obtain⟨rfl⟩:=H1;rw[Qp];simp -dsimp +contextual only[↓evA,eZ,simprocAttr,func124,f124,Qan,e8,LK]
 try simp only[Z3,eY]
 all_goals rfl
theorem Nm(i k){R1 l}[H1:EncL VD R1 l]:LP T (n+1) 125 7 (frm [(0,.imm 3 R1),(3,.i .i64 i),(4,.i .i64 k)]) [] =
  Xy (run (Zm l i) k) (λ(zr:Bool)=>(XE.ret,frm [(2,.b zr)],[])) (λ(zr:Unit)=>(XE.exit 2,frm [(0,.imm 3 (l.map VD)),(3,.i .i64 i)],[])):=by
 obtain⟨rfl⟩:=H1;rw[Qw];simp -dsimp only[↓evA,evB,Qt,func125,f125,qP,YZ,TP,TZ,simprocAttr];apply QB k;intro k;simp -dsimp +contextual only[↓evA,eZ,simprocAttr]
 try simp only[Zm,eY]
 all_goals rfl
theorem NF(i){R1 l}[H1:EncL VD R1 l]:LP T (n+2) 125 2 (frm [(0,.imm 3 R1),(3,.i .i64 i)]) [] =
  Xy (run (Xb l) i) (λ(zr:Bool)=>(XE.ret,frm [(2,.b zr)],[])) (λ(zr:Unit)=>(XE.exit 0,frm [(0,.imm 3 (l.map VD))],[])):=by
 obtain⟨rfl⟩:=H1;rw[Qw];simp -dsimp only[↓evA,evB,Qt,func125,f125,qP,YZ,TP,TZ,simprocAttr];apply QB i;intro i;simp -dsimp +contextual only[↓evA,eZ,simprocAttr,Q0,Nm]
 try simp only[Xb,eY]
 all_goals rfl
theorem GN{R1 l}[H1:EncL VD R1 l]:CP T (n+3) 125 [.imm 3 R1]=(JC l).map λr=>.b r:=by
 obtain⟨rfl⟩:=H1;rw[Qp];simp -dsimp +contextual only[↓evA,eZ,simprocAttr,func125,f125,qP,YZ,NF]
 try simp only[JC,eY]
 all_goals rfl
theorem MA(i k){R1 l R2 a}[H1:EncL Qz R1 l][H2:EncR Qz R2 a]:LP T (n+1) 126 8 (frm [(0,.imm 5 R1),(3,.i .i64 i),(4,.ptr 0 0 0),(5,.i .i64 k)]) [some (Ent.box R2)] =
  Xy (run (JN l i a) k) (λ(zr:Bool)=>(XE.ret,frm [(2,.b zr)],[])) (λ(zr:Unit)=>(XE.exit 2,frm [(0,.imm 5 (l.map Qz)),(3,.i .i64 i)],[])):=by
 rcases H1,H2 with⟨⟨rfl⟩,⟨rfl⟩⟩
 rw[Qw];simp -dsimp only[↓evA,evB,Qt,func126,f126,qK,aA,TP,TZ,simprocAttr];apply QB k;intro k;simp -dsimp +contextual only[↓evA,eZ,simprocAttr]
 try simp only[JN,eY]
 all_goals rfl
theorem ME(i){R1 l}[H1:EncL Qz R1 l]:LP T (n+2) 126 2 (frm [(0,.imm 5 R1),(3,.i .i64 i)]) [] =
  Xy (run (Vl l) i) (λ(zr:Bool)=>(XE.ret,frm [(2,.b zr)],[])) (λ(zr:Unit)=>(XE.exit 0,frm [(0,.imm 5 (l.map Qz))],[])):=by
 obtain⟨rfl⟩:=H1;rw[Qw];simp -dsimp only[↓evA,evB,Qt,func126,f126,qK,aA,TP,TZ,simprocAttr];apply QB i;intro i;simp -dsimp +contextual only[↓evA,eZ,simprocAttr,Q0,MA]
 try simp only[Vl,eY]
 all_goals rfl
theorem Gj{R1 l}[H1:EncL Qz R1 l]:CP T (n+3) 126 [.imm 5 R1]=(Vu l).map λr=>.b r:=by
 obtain⟨rfl⟩:=H1;rw[Qp];simp -dsimp +contextual only[↓evA,eZ,simprocAttr,func126,f126,qK,aA,ME]
 try simp only[Vu,eY]
 all_goals rfl
theorem Wo(a m):CP T (n+2) 231 [.i .i64 a,.i .i64 m]=(F5 a m).map λr=>.i .i64 r:=by
 rw[Qp];simp -dsimp +contextual only[↓evA,eZ,simprocAttr,func231,f231,QkM,kD,Q0]
 try simp only[F5,eY]
 all_goals rfl
theorem Wn(d i){R1 l}[H1:EncL QA R1 l]:LP T (n+3) 232 3 (frm [(0,.imm 1 R1),(3,.i .i64 d),(4,.i .i64 i)]) [] =
  (run (Ja l) (d,i)).map (λ(zr:Int)=>(XE.exit 0,frm [(3,.i .i64 zr)],[])):=by
 obtain⟨rfl⟩:=H1;rw[Qw];simp -dsimp only[↓evA,evB,Qt,func232,f232,zL,dm,TP,TZ,simprocAttr];apply QO d i;intro d i;simp -dsimp +contextual only[↓evA,eZ,simprocAttr,Wo]
 try simp only[Ja,eY]
 all_goals rfl
theorem SH{R1 l}[H1:EncL QA R1 l]:CP T (n+4) 232 [.imm 1 R1]=(CE l).map λr=>.i .i64 r:=by
 obtain⟨rfl⟩:=H1;rw[Qp];simp -dsimp +contextual only[↓evA,eZ,simprocAttr,func232,f232,zL,dm,Wn]
 try simp only[CE,eY]
 all_goals rfl
theorem KD(b){R1 a}[H1:EncR Vr R1 a]:CP T (n+5) 215 [.i .i64 b,.agg R1]=(Au b a).map λr=>.i .i64 r:=by
 obtain⟨rfl⟩:=H1;rw[Qp];simp -dsimp +contextual only[↓evA,eZ,simprocAttr,func215,f215,QkD,li,SH]
 try simp only[Au,eY]
 all_goals rfl
theorem Pd(a b k i){R1 l}[H1:EncL Vr R1 l]:LP T (n+1) 216 3 (frm [(0,.imm 5 R1),(1,.i .i64 a),(2,.i .i64 b),(7,.i .i64 k),(8,.i .i64 i)]) [] =
  (run (Ac l a b) (k,i)).map (λ(zr:Int)=>(XE.exit 0,frm [(7,.i .i64 zr)],[])):=by
 obtain⟨rfl⟩:=H1;rw[Qw];simp -dsimp only[↓evA,evB,Qt,func216,f216,zu,gq,TP,TZ,simprocAttr];apply QO k i;intro k i;simp -dsimp +contextual only[↓evA,eZ,simprocAttr]
 try simp only[Ac,eY]
 all_goals rfl
theorem LV(a b){R1 l}[H1:EncL Vr R1 l]:CP T (n+2) 216 [.imm 5 R1,.i .i64 a,.i .i64 b]=(EM l a b).map λr=>.i .i64 r:=by
 obtain⟨rfl⟩:=H1;rw[Qp];simp -dsimp +contextual only[↓evA,eZ,simprocAttr,func216,f216,zu,gq,Pd]
 try simp only[EM,eY]
 all_goals rfl
theorem Oz(s i){R1 l}[H1:EncL Vr R1 l]:LP T (n+6) 127 3 (frm [(0,.imm 5 R1),(3,.i .i64 s),(4,.i .i64 i)]) [] =
  Xy (run (Q1 l) (s,i)) (λ(zr:Bool)=>(XE.ret,frm [(2,.b zr)],[])) (λ(zr:Unit)=>(XE.exit 0,frm [(0,.imm 5 (l.map Vr))],[])):=by
 obtain⟨rfl⟩:=H1;rw[Qw];simp -dsimp only[↓evA,evB,Qt,func127,f127,QaU,gb,TP,TZ,simprocAttr];apply QO s i;intro s i;simp -dsimp +contextual only[↓evA,eZ,simprocAttr,KD,Q0,LV]
 try simp only[Q1,eY]
 all_goals rfl
theorem Ha{R1 l}[H1:EncL Vr R1 l]:CP T (n+7) 127 [.imm 5 R1]=(Xm l).map λr=>.b r:=by
 obtain⟨rfl⟩:=H1;rw[Qp];simp -dsimp +contextual only[↓evA,eZ,simprocAttr,func127,f127,QaU,gb,Oz]
 try simp only[Xm,eY]
 all_goals rfl
theorem Lx(i){R1 l}[H1:EncL VL R1 l]:LP T (n+2) 128 2 (frm [(0,.imm 4 R1),(3,.i .i64 i)]) [] =
  Xy (run (Jk l) i) (λ(zr:Bool)=>(XE.ret,frm [(2,.b zr)],[])) (λ(zr:Unit)=>(XE.exit 0,frm [(0,.imm 4 (l.map VL))],[])):=by
 obtain⟨rfl⟩:=H1;rw[Qw];simp -dsimp only[↓evA,evB,Qt,func128,f128,zE,fP,TP,TZ,simprocAttr];apply QB i;intro i;simp -dsimp +contextual only[↓evA,eZ,simprocAttr,Q0]
 try simp only[Jk,eY]
 all_goals rfl
theorem FZ{R1 l}[H1:EncL VL R1 l]:CP T (n+3) 128 [.imm 4 R1]=(Jh l).map λr=>.b r:=by
 obtain⟨rfl⟩:=H1;rw[Qp];simp -dsimp +contextual only[↓evA,eZ,simprocAttr,func128,f128,zE,fP,Lx]
 try simp only[Jh,eY]
 all_goals rfl
theorem S2(a k){R1 l}[H1:EncL QA R1 l]:LP T (n+1) 283 2 (frm [(0,.imm 1 R1),(1,.i .i64 a),(5,.i .i64 k)]) [] =
  (run (Xo l a) k).map (λ(zr:Int)=>(XE.exit 0,frm [(0,.imm 1 (l.map QA)),(1,.i .i64 a),(5,.i .i64 zr)],[])):=by
 obtain⟨rfl⟩:=H1;rw[Qw];simp -dsimp only[↓evA,evB,Qt,func283,f283,zq,fg,TP,TZ,simprocAttr];apply QB k;intro k;simp -dsimp +contextual only[↓evA,eZ,simprocAttr]
 try simp only[Xo,eY]
 try simp only[List.contains_nil,Qi,Bool.and_true,Vx,List.length_append,List.length_cons,List.length_nil,Nat.zero_add,Vn,VJ]
 all_goals rfl
theorem O0(a){R1 l}[H1:EncL QA R1 l]:CP T (n+2) 283 [.imm 1 R1,.i .i64 a]=(A7 l a).map λr=>.own 1 (r.map QA):=by
 obtain⟨rfl⟩:=H1;rw[Qp];simp -dsimp +contextual only[↓evA,eZ,simprocAttr,func283,f283,zq,fg,S2]
 try simp only[A7,eY]
 try simp only[List.contains_nil,Qi,Bool.and_true,Vx,List.length_append,List.length_cons,List.length_nil,Nat.zero_add,Vn,VJ]
 all_goals first|rfl|(simp +contextual only[evN]<;>rfl)
theorem Ra(a i){R1 l R2 o}[H1:EncL Vr R1 l][H2:EncL QA R2 o]:LP T (n+8) 217 3 (frm [(0,.imm 5 R1),(1,.i .i64 a),(5,.sl 0),(6,.i .i64 i)]) [some (Ent.lst 1 R2)] =
  (run (Bo l a) (o,i)).map (λ(zr:(List Int))=>(XE.exit 0,frm [(5,.sl 0)],[some (Ent.lst 1 (zr.map QA))])):=by
 rcases H1,H2 with⟨⟨rfl⟩,⟨rfl⟩⟩
 rw[Qw];simp -dsimp only[↓evA,evB,Qt,func217,f217,zJ,dO,TP,TZ,simprocAttr];apply QO o i;intro o i;simp -dsimp +contextual only[↓evA,eZ,simprocAttr,Ha,LV,O0]
 try simp only[Bo,eY]
 all_goals rfl
theorem LS(a){R1 l}[H1:EncL Vr R1 l]:CP T (n+9) 217 [.imm 5 R1,.i .i64 a]=(EL l a).map λr=>.own 1 (r.map QA):=by
 obtain⟨rfl⟩:=H1;rw[Qp];simp -dsimp +contextual only[↓evA,eZ,simprocAttr,func217,f217,zJ,dO,Ra]
 try simp only[EL,eY]
 all_goals first|rfl|(simp +contextual only[evN]<;>rfl)
theorem MP(i i2){R1 l}[H1:EncL Q4 R1 l]:LP T (n+1) 67 2 (frm [(0,.imm 8 R1),(1,.i .i64 i),(5,.i .i64 i2)]) [] =
  Xy (run (ZO l i) i2) (λ(zr:Int)=>(XE.ret,frm [(4,.i .i64 zr)],[])) (λ(zr:Unit)=>(XE.exit 0,frm [],[])):=by
 obtain⟨rfl⟩:=H1;rw[Qw];simp -dsimp only[↓evA,evB,Qt,func67,f67,QkI,tf,TP,TZ,simprocAttr];apply QB i2;intro i2;simp -dsimp +contextual only[↓evA,eZ,simprocAttr]
 try simp only[ZO,eY]
 all_goals rfl
theorem XN(i){R1 l}[H1:EncL Q4 R1 l]:CP T (n+2) 67 [.imm 8 R1,.i .i64 i]=(VZ l i).map λr=>.i .i64 r:=by
 obtain⟨rfl⟩:=H1;rw[Qp];simp -dsimp +contextual only[↓evA,eZ,simprocAttr,func67,f67,QkI,tf,MP]
 try simp only[VZ,eY]
 all_goals rfl
end Go.Proofs.YtoilkmgiofimjaaGreatDoor
