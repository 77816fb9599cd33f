import Derived.Test.YtoilkmgiofimjaaGreatDoorEq2
namespace Go.Proofs.YtoilkmgiofimjaaGreatDoor
open Go Go.Proofs Go.Proofs.YtoilkmgiofimjaaGreatDoor.Am Tryz
set_option maxHeartbeats 4000000
set_option linter.unusedVariables false
set_option linter.unusedSimpArgs false
set_option linter.defProp false
set_option maxRecDepth 100000
variable(n:Nat)
theorem Wa(p f):CP T (n+4) 146 [.i .i64 p,.i .i64 f]=(EF p f).map λr=>.own 2 (r.map Nv):=by
 rw[Qp];simp -dsimp +contextual only[↓evA,eZ,Nat.reduceAdd,Nat.reduceMul,Nat.reduceBEq,Nat.reduceLeDiff,Nat.reduceLT,func146,f146,QkJ,kn,Q0,PM]
 try simp only[EF,eY]
 all_goals first|rfl|(simp +contextual only[evN]<;>rfl)
theorem SU(a2){R1 a R2 b}[H1:EncR QJ R1 a][H2:EncL Jp R2 b]:CP T (n+13) 54 [.agg R1,.i .i64 a2,.imm 3 R2]=(BW a a2 b).map λr=>.tup [.agg (VW r.1),.b r.2]:=by
 rcases H1,H2 with⟨⟨rfl⟩,⟨rfl⟩⟩
 rw[Qp];simp -dsimp +contextual (maxSteps:=100000000) only[↓evA,eZ,Nat.reduceAdd,Nat.reduceMul,Nat.reduceBEq,Nat.reduceLeDiff,Nat.reduceLT,func54,f54,Qrz,vu,srt,XN,Yg,Bd,If,Xe,Ic,Nf,Wa,A8]
 try simp only[BW,eY]
 try simp only[List.contains_nil,Qi,Bool.and_true,Vx,List.length_append,List.length_cons,List.length_nil,Nat.zero_add,Vn,VJ]
 all_goals rfl
theorem Rn(a2){R1 a}[H1:EncR QJ R1 a]:CP T (n+13) 55 [.agg R1,.i .i64 a2]=(Bb a a2).map λr=>.tup [.agg (VW r.1),.b r.2]:=by
 obtain⟨rfl⟩:=H1;rw[Qp];simp -dsimp +contextual (maxSteps:=100000000) only[↓evA,eZ,simprocAttr,func55,f55,QoB,xL,srt,XN,Bd,Xe,If,Ic,A8]
 try simp only[Bb,eY]
 try simp only[List.contains_nil,Qi,Bool.and_true,Vx,List.length_append,List.length_cons,List.length_nil,Nat.zero_add,Vn,VJ]
 all_goals rfl
theorem S6(a2){R1 a}[H1:EncR QJ R1 a]:CP T (n+13) 56 [.agg R1,.i .i64 a2]=(BR a a2).map λr=>.tup [.agg (VW r.1),.b r.2]:=by
 obtain⟨rfl⟩:=H1;rw[Qp];simp -dsimp +contextual (maxSteps:=100000000) only[↓evA,eZ,simprocAttr,func56,f56,QnY,xz,srt,Xe,Q0,A8]
 try simp only[BR,eY]
 all_goals rfl
theorem Om{R1 a R2 e}[H1:EncR QJ R1 a][H2:EncR aP R2 e]:CP T (n+14) 24 [.agg R1,.agg R2]=(Z7 a e).map λr=>.tup [.agg (VW r.1),.b r.2]:=by
 rcases H1,H2 with⟨⟨rfl⟩,⟨rfl⟩⟩
 rw[Qp];simp -dsimp +contextual (maxSteps:=100000000) only[↓evA,eZ,simprocAttr,func24,f24,Qsy,ww,S1,Rr,PA,Sg,SU,Rn,S6,Xe]
 try simp only[Z7,eY]
 all_goals rfl
theorem MQ(a i){R1 l R2 o}[H1:EncL Q4 R1 l][H2:EncL QA R2 o]:LP T (n+6) 57 3 (frm [(0,.imm 8 R1),(1,.i .i64 a),(5,.sl 0),(6,.i .i64 i)]) [some (Ent.lst 1 R2)] =
  (run (Z0 l a) (o,i)).map (λ(zr:(List Int))=>(XE.exit 0,frm [(5,.sl 0)],[some (Ent.lst 1 (zr.map QA))])):=by
 rcases H1,H2 with⟨⟨rfl⟩,⟨rfl⟩⟩
 rw[Qw];simp -dsimp only[↓evA,evB,Qt,func57,f57,Qft,pP,TP,TZ,simprocAttr];apply QO o i;intro o i;simp -dsimp +contextual only[↓evA,eZ,simprocAttr,I5]
 try simp only[Z0,eY]
 all_goals rfl
theorem Rx(a){R1 l}[H1:EncL Q4 R1 l]:CP T (n+7) 57 [.imm 8 R1,.i .i64 a]=(Cb l a).map λr=>.own 1 (r.map QA):=by
 obtain⟨rfl⟩:=H1;rw[Qp];simp -dsimp +contextual only[↓evA,eZ,simprocAttr,func57,f57,Qft,pP,MQ]
 try simp only[Cb,eY]
 all_goals first|rfl|(simp +contextual only[evN]<;>rfl)
theorem K7(i){R1 l R2 o}[H1:EncL VD R1 l][H2:EncL c_s R2 o]:LP T (n+3) 58 3 (frm [(0,.imm 3 R1),(3,.sl 0),(4,.i .i64 i)]) [some (Ent.lst 1 R2)] =
  (run (JV l) (o,i)).map (λ(zr:(List (List UInt8)))=>(XE.exit 0,frm [(3,.sl 0)],[some (Ent.lst 1 (zr.map c_s))])):=by
 rcases H1,H2 with⟨⟨rfl⟩,⟨rfl⟩⟩
 rw[Qw];simp -dsimp only[↓evA,evB,Qt,func58,f58,Qi3,se,TP,TZ,simprocAttr];apply QO o i;intro o i;simp -dsimp +contextual only[↓evA,eZ,simprocAttr,XJ]
 try simp only[JV,eY]
 all_goals rfl
theorem Ny{R1 l}[H1:EncL VD R1 l]:CP T (n+4) 58 [.imm 3 R1]=(A3 l).map λr=>.s r:=by
 obtain⟨rfl⟩:=H1;rw[Qp];simp -dsimp +contextual only[↓evA,eZ,simprocAttr,func58,f58,Qi3,se,He,K7]
 try simp only[A3,eY]
 all_goals rfl
theorem IW(i){R1 l R2 o}[H1:EncL Qz R1 l][H2:EncL c_s R2 o]:LP T (n+3) 59 3 (frm [(0,.imm 5 R1),(3,.sl 0),(4,.i .i64 i)]) [some (Ent.lst 1 R2)] =
  (run (Jv l) (o,i)).map (λ(zr:(List (List UInt8)))=>(XE.exit 0,frm [(3,.sl 0)],[some (Ent.lst 1 (zr.map c_s))])):=by
 rcases H1,H2 with⟨⟨rfl⟩,⟨rfl⟩⟩
 rw[Qw];simp -dsimp only[↓evA,evB,Qt,func59,f59,QfT,ph,TP,TZ,simprocAttr];apply QO o i;intro o i;simp -dsimp +contextual only[↓evA,eZ,simprocAttr,Q0,XJ]
 try simp only[Jv,eY]
 all_goals rfl
theorem Mx{R1 l}[H1:EncL Qz R1 l]:CP T (n+4) 59 [.imm 5 R1]=(Z1 l).map λr=>.s r:=by
 obtain⟨rfl⟩:=H1;rw[Qp];simp -dsimp +contextual only[↓evA,eZ,simprocAttr,func59,f59,QfT,ph,He,IW]
 try simp only[Z1,eY]
 all_goals rfl
theorem Of{R1 a}[H1:EncR QJ R1 a]:CP T (n+5) 60 [.agg R1]=(AS a).map λr=>.s r:=by
 obtain⟨rfl⟩:=H1;rw[Qp];simp -dsimp +contextual (maxSteps:=100000000) only[↓evA,eZ,simprocAttr,func60,f60,Qn0,wU,Ec]
 try simp only[AS,eY]
 all_goals rfl
theorem OQ(a i){R1 l R2 o}[H1:EncL Vr R1 l][H2:EncL Vr R2 o]:LP T (n+1) 154 3 (frm [(0,.imm 5 R1),(1,.i .i64 a),(5,.sl 0),(6,.i .i64 i)]) [some (Ent.lst 5 R2)] =
  (run (XH l a) (o,i)).map (λ(zr:(List Hand))=>(XE.exit 0,frm [(5,.sl 0)],[some (Ent.lst 5 (zr.map Vr))])):=by
 rcases H1,H2 with⟨⟨rfl⟩,⟨rfl⟩⟩
 rw[Qw];simp -dsimp only[↓evA,evB,Qt,func154,f154,Qap,fA,TP,TZ,simprocAttr];apply QO o i;intro o i;simp -dsimp +contextual only[↓evA,eZ,simprocAttr]
 try simp only[XH,eY]
 all_goals rfl
theorem L4(a){R1 l}[H1:EncL Vr R1 l]:CP T (n+2) 154 [.imm 5 R1,.i .i64 a]=(BG l a).map λr=>.own 5 (r.map Vr):=by
 obtain⟨rfl⟩:=H1;rw[Qp];simp -dsimp +contextual only[↓evA,eZ,simprocAttr,func154,f154,Qap,fA,OQ]
 try simp only[BG,eY]
 all_goals first|rfl|(simp +contextual only[evN]<;>rfl)
theorem KM(i2){R1 a R2 i}[H1:EncR QJ R1 a][H2:EncL QA R2 i]:LP T (n+3) 148 3 (frm [(1,.ptr 0 0 0),(3,.sl 1),(4,.i .i64 i2)]) [some (Ent.box R1),some (Ent.lst 1 R2)] =
  Xy (run (JY a i) i2) (λ(zr:Bool)=>(XE.ret,frm [(2,.b zr)],[])) (λ(zr:Unit)=>(XE.exit 0,frm [],[])):=by
 rcases H1,H2 with⟨⟨rfl⟩,⟨rfl⟩⟩
 rw[Qw];simp -dsimp only[↓evA,evB,Qt,func148,f148,Qar,cF,TP,TZ,simprocAttr];apply QB i2;intro i2;simp -dsimp +contextual (maxSteps:=100000000) only[↓evA,eZ,simprocAttr,L4,E8,Kc]
 try simp only[JY,eY]
 all_goals rfl
theorem NG{R1 a}[H1:EncR QJ R1 a]:CP T (n+10) 148 [.agg R1]=(CJ a).map λr=>.b r:=by
 obtain⟨rfl⟩:=H1;rw[Qp];simp -dsimp +contextual (maxSteps:=100000000) only[↓evA,eZ,simprocAttr,func148,f148,Qar,cF,LS,KM]
 try simp only[CJ,eY]
 all_goals rfl
theorem La(i){R1 a R2 a2}[H1:EncR QJ R1 a][H2:EncR Vr R2 a2]:LP T (n+1) 229 2 (frm [(2,.ptr 0 0 0),(3,.ptr 1 0 0),(5,.i .i64 i)]) [some (Ent.box R1),some (Ent.box R2)] =
  Xy (run (Zg a a2) i) (λ(zr:Bool)=>(XE.ret,frm [(4,.b zr)],[])) (λ(zr:Unit)=>(XE.exit 0,frm [],[])):=by
 rcases H1,H2 with⟨⟨rfl⟩,⟨rfl⟩⟩
 rw[Qw];simp -dsimp only[↓evA,evB,Qt,func229,f229,Qaf,cL,TP,TZ,simprocAttr];apply QB i;intro i;simp -dsimp +contextual (maxSteps:=100000000) only[↓evA,eZ,simprocAttr]
 try simp only[Zg,eY]
 all_goals rfl
theorem HE{R1 a R2 a2}[H1:EncR QJ R1 a][H2:EncR Vr R2 a2]:CP T (n+2) 229 [.agg R1,.agg R2]=(Bn a a2).map λr=>.b r:=by
 rcases H1,H2 with⟨⟨rfl⟩,⟨rfl⟩⟩
 rw[Qp];simp -dsimp +contextual (maxSteps:=100000000) only[↓evA,eZ,simprocAttr,func229,f229,Qaf,cL,La]
 try simp only[Bn,eY]
 all_goals rfl
theorem MV(i){R1 a}[H1:EncR QJ R1 a]:LP T (n+3) 149 2 (frm [(1,.ptr 0 0 0),(3,.i .i64 i)]) [some (Ent.box R1)] =
  Xy (run (ZN a) i) (λ(zr:Bool)=>(XE.ret,frm [(2,.b zr)],[])) (λ(zr:Unit)=>(XE.exit 0,frm [],[])):=by
 obtain⟨rfl⟩:=H1;rw[Qw];simp -dsimp only[↓evA,evB,Qt,func149,f149,Qao,dl,TP,TZ,simprocAttr];apply QB i;intro i;simp -dsimp +contextual (maxSteps:=100000000) only[↓evA,eZ,simprocAttr,XN,HE]
 try simp only[ZN,eY]
 all_goals rfl
theorem Rp{R1 a}[H1:EncR QJ R1 a]:CP T (n+4) 149 [.agg R1]=(D5 a).map λr=>.b r:=by
 obtain⟨rfl⟩:=H1;rw[Qp];simp -dsimp +contextual (maxSteps:=100000000) only[↓evA,eZ,simprocAttr,func149,f149,Qao,dl,MV]
 try simp only[D5,eY]
 all_goals rfl
theorem Kl(i){R1 a}[H1:EncR QJ R1 a]:LP T (n+6) 150 2 (frm [(1,.ptr 0 0 0),(3,.i .i64 i)]) [some (Ent.box R1)] =
  Xy (run (Ju a) i) (λ(zr:Bool)=>(XE.ret,frm [(2,.b zr)],[])) (λ(zr:Unit)=>(XE.exit 0,frm [],[])):=by
 obtain⟨rfl⟩:=H1;rw[Qw];simp -dsimp only[↓evA,evB,Qt,func150,f150,zV,dH,TP,TZ,simprocAttr];apply QB i;intro i;simp -dsimp +contextual (maxSteps:=100000000) only[↓evA,eZ,simprocAttr,XN,HE,I5]
 try simp only[Ju,eY]
 all_goals rfl
theorem M3{R1 a}[H1:EncR QJ R1 a]:CP T (n+7) 150 [.agg R1]=(BP a).map λr=>.b r:=by
 obtain⟨rfl⟩:=H1;rw[Qp];simp -dsimp +contextual (maxSteps:=100000000) only[↓evA,eZ,simprocAttr,func150,f150,zV,dH,Kl]
 try simp only[BP,eY]
 all_goals rfl
theorem Lt(i){R1 l R2 o}[H1:EncL VL R1 l][H2:EncL QA R2 o]:LP T (n+3) 230 3 (frm [(0,.imm 4 R1),(3,.sl 0),(4,.i .i64 i)]) [some (Ent.lst 1 R2)] =
  (run (Zh l) (o,i)).map (λ(zr:(List Int))=>(XE.exit 0,frm [(3,.sl 0)],[some (Ent.lst 1 (zr.map QA))])):=by
 rcases H1,H2 with⟨⟨rfl⟩,⟨rfl⟩⟩
 rw[Qw];simp -dsimp only[↓evA,evB,Qt,func230,f230,zH,eA,TP,TZ,simprocAttr];apply QO o i;intro o i;simp -dsimp +contextual only[↓evA,eZ,simprocAttr,O0]
 try simp only[Zh,eY]
 all_goals rfl
theorem Pr{R1 l}[H1:EncL VL R1 l]:CP T (n+4) 230 [.imm 4 R1]=(Bw l).map λr=>.own 1 (r.map QA):=by
 obtain⟨rfl⟩:=H1;rw[Qp];simp -dsimp +contextual only[↓evA,eZ,simprocAttr,func230,f230,zH,eA,Lt]
 try simp only[Bw,eY]
 all_goals first|rfl|(simp +contextual only[evN]<;>rfl)
theorem P0(a a2 i){R1 l}[H1:EncL VL R1 l]:LP T (n+4) 71 3 (frm [(0,.imm 4 R1),(1,.i .i64 a),(5,.i .i64 a2),(6,.i .i64 i)]) [] =
  (run (Ae l a) (a2,i)).map (λ(zr:Int)=>(XE.exit 0,frm [(5,.i .i64 zr)],[])):=by
 obtain⟨rfl⟩:=H1;rw[Qw];simp -dsimp only[↓evA,evB,Qt,func71,f71,QfL,ue,TP,TZ,simprocAttr];apply QO a2 i;intro a2 i;simp -dsimp +contextual only[↓evA,eZ,simprocAttr,FZ]
 try simp only[Ae,eY]
 all_goals rfl
theorem Hc(a){R1 l}[H1:EncL VL R1 l]:CP T (n+5) 71 [.imm 4 R1,.i .i64 a]=(Zx l a).map λr=>.i .i64 r:=by
 obtain⟨rfl⟩:=H1;rw[Qp];simp -dsimp +contextual only[↓evA,eZ,simprocAttr,func71,f71,QfL,ue,P0]
 try simp only[Zx,eY]
 all_goals rfl
theorem LU(a2 i){R1 a R2 a3}[H1:EncR QJ R1 a][H2:EncL QA R2 a3]:LP T (n+6) 151 4 (frm [(1,.ptr 0 0 0),(3,.i .i64 a2),(4,.sl 1),(5,.i .i64 i)]) [some (Ent.box R1),some (Ent.lst 1 R2)] =
  (run (Bc a a3) (a2,i)).map (λ(zr:Int)=>(XE.exit 0,frm [(1,.ptr 0 0 0),(3,.i .i64 zr)],[some (Ent.box (QJ a))])):=by
 rcases H1,H2 with⟨⟨rfl⟩,⟨rfl⟩⟩
 rw[Qw];simp -dsimp only[↓evA,evB,Qt,func151,f151,zi,fY,TP,TZ,simprocAttr];apply QO a2 i;intro a2 i;simp -dsimp +contextual (maxSteps:=100000000) only[↓evA,eZ,simprocAttr,Hc]
 try simp only[Bc,eY]
 all_goals rfl
theorem OK{R1 a}[H1:EncR QJ R1 a]:CP T (n+7) 151 [.agg R1]=(Ds a).map λr=>.b r:=by
 obtain⟨rfl⟩:=H1;rw[Qp];simp -dsimp +contextual (maxSteps:=100000000) only[↓evA,eZ,simprocAttr,func151,f151,zi,fY,Pr,Hc,LU]
 try simp only[Ds,eY]
 all_goals rfl
theorem Wz{R1 a}[H1:EncR QJ R1 a]:CP T (n+12) 61 [.agg R1]=(Ej a).map λr=>.s r:=by
 obtain⟨rfl⟩:=H1;rw[Qp];simp -dsimp +contextual (maxSteps:=100000000) only[↓evA,eZ,simprocAttr,func61,f61,QrS,yE,Bd,NG,Rp,M3,OK]
 try simp only[Ej,eY]
 all_goals rfl
theorem T8(w){R1 a}[H1:EncR QJ R1 a]:CP T (n+13) 25 [.agg R1,.s w]=(JH a w).map λr=>.s r:=by
 obtain⟨rfl⟩:=H1;rw[Qp];simp -dsimp +contextual (maxSteps:=100000000) only[↓evA,eZ,simprocAttr,func25,f25,Qtq,yX,Rx,Ec,Ny,Mx,Of,Wz]
 try simp only[JH,eY]
 all_goals rfl
theorem PS(c i){R1 a R2 a2}[H1:EncR QJ R1 a][H2:EncR VC R2 a2]:LP T (n+1) 62 2 (frm [(1,.i .i64 c),(2,.ptr 0 0 0),(4,.ptr 1 0 0),(6,.i .i64 i)]) [some (Ent.box R1),some (Ent.box R2)] =
  Xy (run (Bk c a a2) i) (λ(zr:Trial×Bool)=>(XE.ret,frm [(4,.ptr 0 0 0),(5,.b zr.2)],[some (Ent.box (VC zr.1))])) (λ(zr:Unit)=>(XE.exit 0,frm [(4,.ptr 0 0 0)],[some (Ent.box (VC a2))])):=by
 rcases H1,H2 with⟨⟨rfl⟩,⟨rfl⟩⟩
 rw[Qw];simp -dsimp only[↓evA,evB,Qt,func62,f62,QnT,qE,TP,TZ,simprocAttr];apply QB i;intro i;simp -dsimp +contextual (maxSteps:=100000000) only[↓evA,eZ,simprocAttr]
 try simp only[Bk,eY]
 all_goals rfl
theorem WT(c){R1 a}[H1:EncR QJ R1 a]:CP T (n+2) 62 [.agg R1,.i .i64 c]=(Em a c).map λr=>.tup [.agg (VC r.1),.b r.2]:=by
 obtain⟨rfl⟩:=H1;rw[Qp];simp -dsimp +contextual (maxSteps:=100000000) only[↓evA,eZ,simprocAttr,func62,f62,QnT,qE,PS]
 try simp only[Em,eY]
 all_goals rfl
theorem P1(a):CP T (n+2) 155 [.i .i64 a]=(J5 a).map λr=>.s r:=by
 rw[Qp];simp -dsimp +contextual only[↓evA,eZ,simprocAttr,func155,f155,Qf7,kl,Q0]
 try simp only[J5,eY]
 all_goals rfl
theorem PG(s i){R1 a}[H1:EncL Vr R1 a]:LP T (n+3) 66 4 (frm [(5,.s s),(6,.sl 0),(7,.i .i64 i)]) [some (Ent.lst 5 R1)] =
  (run (Bq a) (s,i)).map (λ(zr:(List UInt8))=>(XE.exit 0,frm [(5,.s zr),(6,.sl 0)],[some (Ent.lst 5 (a.map Vr))])):=by
 obtain⟨rfl⟩:=H1;rw[Qw];simp -dsimp only[↓evA,evB,Qt,func66,f66,QkR,rc,TP,TZ,simprocAttr];apply QO s i;intro s i;simp -dsimp +contextual only[↓evA,eZ,simprocAttr,P1,XJ]
 try simp only[Bq,eY]
 all_goals rfl
theorem UI(a){R1 l}[H1:EncL Vr R1 l]:CP T (n+4) 66 [.imm 5 R1,.i .i64 a]=(EC l a).map λr=>.s r:=by
 obtain⟨rfl⟩:=H1;rw[Qp];simp -dsimp +contextual only[↓evA,eZ,simprocAttr,func66,f66,QkR,rc,L4,PG]
 try simp only[EC,eY]
 all_goals rfl
theorem S4(f):CP T (n+2) 68 [.i .i64 f]=(Dw f).map λr=>.s r:=by
 rw[Qp];simp -dsimp +contextual only[↓evA,eZ,simprocAttr,func68,f68,QoC,wn,Q0]
 try simp only[Dw,eY]
 all_goals rfl
theorem Oi(c):CP T (n+3) 70 [.i .i64 c]=(Ck c).map λr=>.s r:=by
 rw[Qp];simp -dsimp +contextual only[↓evA,eZ,simprocAttr,func70,f70,QoP,yD,Q0,XJ]
 try simp only[Ck,eY]
 all_goals rfl
theorem Yv(w a2){R1 a}[H1:EncR QJ R1 a]:CP T (n+7) 26 [.agg R1,.s w,.i .i64 a2]=(J3 a w a2).map λr=>.s r:=by
 obtain⟨rfl⟩:=H1;rw[Qp];simp -dsimp +contextual (maxSteps:=100000000) only[↓evA,eZ,simprocAttr,func26,f26,Qor,yv,WT,EA,Hb,GS,XJ,UI,XN,If,S4,Hc,Oi]
 try simp only[J3,eY]
 all_goals rfl
theorem KR(s i){R1 a R2 w}[H1:EncR QJ R1 a][H2:EncL c_s R2 w]:LP T (n+1) 9 8 (frm [(2,.ptr 0 0 0),(4,.ptr 1 0 0),(6,.sl 2),(8,.s s),(9,.i .i64 i)]) [some (Ent.box R1),some (Ent.box [.i .i64 0,.nil,.nil,.nil,.nil,.nil,.nil,.nil,.i .i64 0]),some (Ent.lst 1 R2)] =
  (run (J0 a w) (s,i)).map (λ(zr:(List UInt8))=>(XE.exit 0,frm [(2,.ptr 0 0 0),(4,.ptr 1 0 0),(8,.s zr)],[some (Ent.box (QJ a)),some (Ent.box [.i .i64 0,.nil,.nil,.nil,.nil,.nil,.nil,.nil,.i .i64 0])])):=by
 rcases H1,H2 with⟨⟨rfl⟩,⟨rfl⟩⟩
 rw[Qw];simp -dsimp only[↓evA,evB,Qt,func9,f9,Aa9,An9,TP,TZ,simprocAttr];apply QO s i;intro s i;simp -dsimp +contextual (maxSteps:=100000000) only[↓evA,eZ,simprocAttr,srt]
 try simp only[J0,eY]
 try simp only[List.contains_nil,Qi,Bool.and_true,Vx,List.length_append,List.length_cons,List.length_nil,Nat.zero_add,Vn,VJ]
 all_goals rfl
theorem NY(l){R1 a}[H1:EncR QJ R1 a]:CP T (n+15) 9 [.agg R1,.s l]=(Vy a l).map λr=>.tup [.agg (VW r.1),.s r.2]:=by
 obtain⟨rfl⟩:=H1;rw[Qp];simp -dsimp +contextual (maxSteps:=100000000) only[↓evA,eZ,Nat.reduceAdd,Nat.reduceMul,Nat.reduceBEq,Nat.reduceLeDiff,Nat.reduceLT,func9,f9,Aa9,An9,srt,Tk,Xe,U5,Ok,OF,Ec,LR,M7,Tu,T3,Tp,Om,T8,Yv,KR]
 try simp only[Vy,eY]
 try simp only[List.contains_nil,Qi,Bool.and_true,Vx,List.length_append,List.length_cons,List.length_nil,Nat.zero_add,Vn,VJ]
 all_goals rfl
theorem L1(a a2 i){R1 l}[H1:EncL c_s R1 l]:LP T (n+1) 4 4 (frm [(0,.s a),(4,.sl 0),(5,.i .i64 a2),(6,.i .i64 i)]) [some (Ent.lst 1 R1)] =
  (run (V2 a) (l,a2,i)).map (λ(zr:(List (List UInt8)))=>(XE.exit 0,frm [(4,.sl 0)],[some (Ent.lst 1 (zr.map c_s))])):=by
 obtain⟨rfl⟩:=H1;rw[Qw];simp -dsimp only[↓evA,evB,Qt,func4,f4,Aa4,An4,TP,TZ,simprocAttr];apply E7 l a2 i;intro l a2 i;simp -dsimp +contextual only[↓evA,eZ,simprocAttr]
 try simp only[V2,eY]
 try simp only[List.contains_nil,Qi,Bool.and_true,Vx,List.length_append,List.length_cons,List.length_nil,Nat.zero_add,Vn,VJ]
 all_goals rfl
theorem KN(axNo axNow i){R1 l R2 axFinds R3 axSecrets R4 axSlots R5 axClaims R6 axTrials R7 axChain R8 axBook R9 o}[H1:EncL c_s R1 l][H2:EncL Q4 R2 axFinds][H3:EncL Vk R3 axSecrets][H4:EncL VD R4 axSlots][H5:EncL Qz R5 axClaims][H6:EncL VC R6 axTrials][H7:EncL Vr R7 axChain][H8:EncL VL R8 axBook][H9:EncL c_s R9 o]:LP T (n+16) 4 15 (frm [(4,.sl 0),(7,.ptr 1 0 0),(8,.sl 9),(9,.i .i64 i)]) [some (Ent.lst 1 R1),some (Ent.box [.i .i64 axNo,.sl 2,.sl 3,.sl 4,.sl 5,.sl 6,.sl 7,.sl 8,.i .i64 axNow]),some (Ent.lst 8 R2),some (Ent.lst 3 R3),some (Ent.lst 3 R4),some (Ent.lst 5 R5),some (Ent.lst 4 R6),some (Ent.lst 5 R7),some (Ent.lst 4 R8),some (Ent.lst 1 R9)] =
  (run (V7 l) ((⟨axNo,axFinds,axSecrets,axSlots,axClaims,axTrials,axChain,axBook,axNow⟩:House),o,i)).map (λ(zr:(List (List UInt8)))=>(XE.exit 2,frm [(8,.sl 0)],[some (Ent.lst 1 (zr.map c_s))])):=by
 rcases H1,H2,H3,H4,H5,H6,H7,H8,H9 with⟨⟨rfl⟩,⟨rfl⟩,⟨rfl⟩,⟨rfl⟩,⟨rfl⟩,⟨rfl⟩,⟨rfl⟩,⟨rfl⟩,⟨rfl⟩⟩
 rw[Qw];simp -dsimp only[↓evA,evB,Qt,func4,f4,Aa4,An4,TP,TZ,simprocAttr];refine run_map (λ(zs:House×(List (List UInt8))×Int)=>(frm [(4,.sl 0),(7,.ptr 1 0 0),(8,.sl 9),(9,.i .i64 zs.2.2)],[some (Ent.lst 1 (l.map c_s)),some (Ent.box [.i .i64 zs.1.No,.sl 2,.sl 3,.sl 4,.sl 5,.sl 6,.sl 7,.sl 8,.i .i64 zs.1.Now]),some (Ent.lst 8 (zs.1.Finds.map Q4)),some (Ent.lst 3 (zs.1.Secrets.map Vk)),some (Ent.lst 3 (zs.1.Slots.map VD)),some (Ent.lst 5 (zs.1.Claims.map Qz)),some (Ent.lst 4 (zs.1.Trials.map VC)),some (Ent.lst 5 (zs.1.Chain.map Vr)),some (Ent.lst 4 (zs.1.Book.map VL)),some (Ent.lst 1 (zs.2.1.map c_s))])) _ ?_ ((⟨axNo,axFinds,axSecrets,axSlots,axClaims,axTrials,axChain,axBook,axNow⟩:House),o,i)
 rintro⟨a,o,i⟩;simp -dsimp +contextual (maxSteps:=100000000) only[↓evA,eZ,simprocAttr,NY]
 try simp only[V7,eY]
 try simp only[List.contains_nil,Qi,Bool.and_true,Vx,List.length_append,List.length_cons,List.length_nil,Nat.zero_add,Vn,VJ]
 all_goals rfl
theorem On(a):CP T (n+17) 4 [.s a]=(Bv a).map λr=>.tup [.own 1 (r.1.map c_s),.b r.2]:=by
 rw[Qp];simp -dsimp +contextual only[↓evA,eZ,simprocAttr,func4,f4,Aa4,An4,L1,KN]
 try simp only[Bv,eY]
 try simp only[List.contains_nil,Qi,Bool.and_true,Vx,List.length_append,List.length_cons,List.length_nil,Nat.zero_add,Vn,VJ]
 all_goals first|rfl|(simp +contextual only[evN]<;>rfl)
theorem b9(w):CP T (n+1) 28 [.s w]=(Hn w).map λr=>.i .i64 r:=by
 rw[Qp];simp -dsimp +contextual (maxSteps:=100000000) only[↓evA,eZ,simprocAttr,func28,f28,Qra,vv]
 try simp only[Hn,eY]
 all_goals rfl
theorem GU{R1 s}[H1:EncL Q4 R1 s]:CP T (n+1) 75 [.imm 8 R1]=(JP s).map λr=>.own 8 (r.map Q4):=by
 obtain⟨rfl⟩:=H1;rw[Qp];simp -dsimp +contextual only[↓evA,eZ,simprocAttr,func75,f75,Qs2,yt]
 try simp only[JP,eY]
 all_goals first|rfl|(simp +contextual only[evN]<;>rfl)
theorem EV{R1 s}[H1:EncL X5 R1 s]:CP T (n+1) 160 [.imm 2 R1]=(XX s).map λr=>.own 2 (r.map X5):=by
 obtain⟨rfl⟩:=H1;rw[Qp];simp -dsimp +contextual only[↓evA,eZ,simprocAttr,func160,f160,QeJ,lc]
 try simp only[XX,eY]
 all_goals first|rfl|(simp +contextual only[evN]<;>rfl)
theorem Kf(a2 a3){R1 o R2 a}[H1:EncL Vk R1 o][H2:EncL VR R2 a]:LP T (n+2) 76 3 (frm [(3,.sl 0),(7,.imm 3 R2),(8,.i .i64 a2),(9,.i .i64 a3)]) [some (Ent.lst 3 R1)] =
  (run (XB a a2) (o,a3)).map (λ(zr:(List Secret))=>(XE.exit 0,frm [(3,.sl 0)],[some (Ent.lst 3 (zr.map Vk))])):=by
 rcases H1,H2 with⟨⟨rfl⟩,⟨rfl⟩⟩
 rw[Qw];simp -dsimp only[↓evA,evB,Qt,func76,f76,Qnr,re,TP,TZ,simprocAttr];apply QO o a3;intro o a3;simp -dsimp +contextual only[↓evA,eZ,simprocAttr,EV]
 try simp only[XB,eY]
 all_goals rfl
theorem GV{R1 l}[H1:EncL VR R1 l]:CP T (n+3) 76 [.imm 3 R1]=(JF l).map λr=>.own 3 (r.map Vk):=by
 obtain⟨rfl⟩:=H1;rw[Qp];simp -dsimp +contextual only[↓evA,eZ,simprocAttr,func76,f76,Qnr,re,Kf]
 try simp only[JF,eY]
 all_goals first|rfl|(simp +contextual only[evN]<;>rfl)
theorem B4{R1 s}[H1:EncL VD R1 s]:CP T (n+1) 77 [.imm 3 R1]=(Xg s).map λr=>.own 3 (r.map VD):=by
 obtain⟨rfl⟩:=H1;rw[Qp];simp -dsimp +contextual only[↓evA,eZ,simprocAttr,func77,f77,Qp8,vq]
 try simp only[Xg,eY]
 all_goals first|rfl|(simp +contextual only[evN]<;>rfl)
theorem Ed{R1 s}[H1:EncL Qz R1 s]:CP T (n+1) 78 [.imm 5 R1]=(VO s).map λr=>.own 5 (r.map Qz):=by
 obtain⟨rfl⟩:=H1;rw[Qp];simp -dsimp +contextual only[↓evA,eZ,simprocAttr,func78,f78,QqL,xk]
 try simp only[VO,eY]
 all_goals first|rfl|(simp +contextual only[evN]<;>rfl)
theorem Lh{R1 s}[H1:EncL VC R1 s]:CP T (n+1) 79 [.imm 4 R1]=(C1 s).map λr=>.own 4 (r.map VC):=by
 obtain⟨rfl⟩:=H1;rw[Qp];simp -dsimp +contextual only[↓evA,eZ,simprocAttr,func79,f79,QpK,vB]
 try simp only[C1,eY]
 all_goals first|rfl|(simp +contextual only[evN]<;>rfl)
theorem GT{R1 s}[H1:EncL Vr R1 s]:CP T (n+1) 80 [.imm 5 R1]=(Xt s).map λr=>.own 5 (r.map Vr):=by
 obtain⟨rfl⟩:=H1;rw[Qp];simp -dsimp +contextual only[↓evA,eZ,simprocAttr,func80,f80,Qou,wS]
 try simp only[Xt,eY]
 all_goals first|rfl|(simp +contextual only[evN]<;>rfl)
theorem GB{R1 s}[H1:EncL VL R1 s]:CP T (n+1) 81 [.imm 4 R1]=(Jo s).map λr=>.own 4 (r.map VL):=by
 obtain⟨rfl⟩:=H1;rw[Qp];simp -dsimp +contextual only[↓evA,eZ,simprocAttr,func81,f81,QsY,vU]
 try simp only[Jo,eY]
 all_goals first|rfl|(simp +contextual only[evN]<;>rfl)
theorem VM{R1 a}[H1:EncR QJ R1 a]:CP T (n+4) 29 [.agg R1]=(QG a).map λr=>.agg (VW r):=by
 obtain⟨rfl⟩:=H1;rw[Qp];simp -dsimp +contextual (maxSteps:=100000000) only[↓evA,eZ,simprocAttr,func29,f29,Qpy,uW,GU,GV,B4,Ed,Lh,GT,GB]
 try simp only[QG,eY]
 all_goals rfl
theorem N2(s a a2 a3):LP T (n+1) 82 5 (frm [(0,.s s),(4,.i .i64 a),(25,.i .i64 a2),(26,.i .i64 a3)]) [] =
  Xy (run (AO s a2) (a,a3)) (λ(zr:Int×Bool)=>(XE.ret,frm [(2,.i .i64 zr.1),(3,.b zr.2)],[])) (λ(zr:Int)=>(XE.exit 0,frm [(4,.i .i64 zr)],[])):=by
 rw[Qw];simp -dsimp only[↓evA,evB,Qt,func82,f82,QlW,ul,TP,TZ,simprocAttr];apply QO a a3;intro a a3;simp -dsimp +contextual only[↓evA,eZ,simprocAttr]
 try simp only[AO,eY]
 all_goals rfl
theorem Fb(s):CP T (n+2) 82 [.s s]=(ZB s).map λr=>.tup [.i .i64 r.1,.b r.2]:=by
 rw[Qp];simp -dsimp +contextual only[↓evA,eZ,simprocAttr,func82,f82,QlW,ul,N2]
 try simp only[ZB,eY]
 all_goals rfl
theorem Mv(a2 a3){R1 o R2 a}[H1:EncL QA R1 o][H2:EncL c_s R2 a]:LP T (n+3) 83 5 (frm [(4,.sl 0),(14,.sl 1),(15,.i .i64 a2),(16,.i .i64 a3)]) [some (Ent.lst 1 R1),some (Ent.lst 1 R2)] =
  Xy (run (ZW a a2) (o,a3)) (λ(zr:(List Int)×Bool)=>(XE.ret,frm [(2,.sl 0),(3,.b zr.2)],[some (Ent.lst 1 (zr.1.map QA))])) (λ(zr:(List Int))=>(XE.exit 0,frm [(4,.sl 0)],[some (Ent.lst 1 (zr.map QA))])):=by
 rcases H1,H2 with⟨⟨rfl⟩,⟨rfl⟩⟩
 rw[Qw];simp -dsimp only[↓evA,evB,Qt,func83,f83,QeQ,rN,TP,TZ,simprocAttr];apply QO o a3;intro o a3;simp -dsimp +contextual only[↓evA,eZ,simprocAttr,Fb]
 try simp only[ZW,eY]
 all_goals rfl
theorem RQ(s):CP T (n+4) 83 [.s s]=(Cd s).map λr=>.tup [.own 1 (r.1.map QA),.b r.2]:=by
 rw[Qp];simp -dsimp +contextual only[↓evA,eZ,simprocAttr,func83,f83,QeQ,rN,Fc,Mv]
 try simp only[Cd,eY]
 all_goals first|rfl|(simp +contextual only[evN]<;>rfl)
theorem Sj(s):CP T (n+3) 84 [.s s]=(Ce s).map λr=>.tup [.i .i64 r.1,.i .i64 r.2.1,.b r.2.2]:=by
 rw[Qp];simp -dsimp +contextual only[↓evA,eZ,simprocAttr,func84,f84,Qp1,yo,W7,Fb]
 try simp only[Ce,eY]
 all_goals rfl
theorem QV(a l a2):CP T (n+1) 190 [.i .i64 a,.i .i64 l,.i .i64 a2]=(Qo a l a2).map λr=>.b r:=by
 rw[Qp];simp -dsimp +contextual only[↓evA,eZ,simprocAttr,func190,f190,Qe7,kY]
 try simp only[Qo,eY]
 all_goals rfl
theorem Ku(k):CP T (n+2) 162 [.i .i64 k]=(Dy k).map λr=>.s r:=by
 rw[Qp];simp -dsimp +contextual only[↓evA,eZ,simprocAttr,func162,f162,Qi8,mb,QV]
 try simp only[Dy,eY]
 all_goals rfl
theorem RL(s k):LP T (n+3) 85 2 (frm [(0,.s s),(3,.i .i64 k)]) [] =
  Xy (run (X4 s) k) (λ(zr:Int)=>(XE.ret,frm [(2,.i .i64 zr)],[])) (λ(zr:Unit)=>(XE.exit 0,frm [],[])):=by
 rw[Qw];simp -dsimp only[↓evA,evB,Qt,func85,f85,Qfx,qz,TP,TZ,simprocAttr];apply QB k;intro k;simp -dsimp +contextual only[↓evA,eZ,simprocAttr,Ku]
 try simp only[X4,eY]
 all_goals rfl
theorem M8(s):CP T (n+4) 85 [.s s]=(AE s).map λr=>.i .i64 r:=by
 rw[Qp];simp -dsimp +contextual only[↓evA,eZ,simprocAttr,func85,f85,Qfx,qz,RL]
 try simp only[AE,eY]
 all_goals rfl
theorem K5(l2 a a3 a4){R1 l R2 a2}[H1:EncL QA R1 l][H2:EncL QA R2 a2]:LP T (n+2) 239 2 (frm [(0,.imm 1 R1),(1,.i .i64 l2),(2,.i .i64 a),(9,.imm 1 R2),(10,.i .i64 a3),(11,.i .i64 a4)]) [] =
  Xy (run (JW l l2 a a2 a3) a4) (λ(zr:Bool)=>(XE.ret,frm [(6,.b zr)],[])) (λ(zr:Unit)=>(XE.exit 0,frm [],[])):=by
 rcases H1,H2 with⟨⟨rfl⟩,⟨rfl⟩⟩
 rw[Qw];simp -dsimp only[↓evA,evB,Qt,func239,f239,y6,gr,TP,TZ,simprocAttr];apply QB a4;intro a4;simp -dsimp +contextual only[↓evA,eZ,simprocAttr,QV]
 try simp only[JW,eY]
 all_goals rfl
theorem NW(l2 a){R1 l}[H1:EncL QA R1 l]:CP T (n+3) 239 [.imm 1 R1,.i .i64 l2,.i .i64 a]=(AP l l2 a).map λr=>.b r:=by
 obtain⟨rfl⟩:=H1;rw[Qp];simp -dsimp +contextual only[↓evA,eZ,simprocAttr,func239,f239,y6,gr,K5]
 try simp only[AP,eY]
 all_goals rfl
theorem Yp{R1 s}[H1:EncR Uf R1 s]:CP T (n+2) 240 [.agg R1]=(HA s).map λr=>.b r:=by
 obtain⟨rfl⟩:=H1;rw[Qp];simp -dsimp +contextual only[↓evA,eZ,simprocAttr,func240,f240,QgF,jU,QV]
 try simp only[HA,eY]
 all_goals rfl
theorem KH{R1 r}[H1:EncR CU R1 r]:CP T (n+4) 163 [.agg R1]=(JE r).map λr=>.b r:=by
 obtain⟨rfl⟩:=H1;rw[Qp];simp -dsimp +contextual only[↓evA,eZ,simprocAttr,func163,f163,Qny,l6,QV,NW,Yp]
 try simp only[JE,eY]
 all_goals rfl
theorem XK(a):CP T (n+2) 90 [.i .i64 a]=(QK a).map λr=>.s r:=by
 rw[Qp];simp -dsimp +contextual only[↓evA,eZ,simprocAttr,func90,f90,Qsq,yy,Ww]
 try simp only[QK,eY]
 all_goals rfl
theorem NB(a2 a3){R1 o R2 a}[H1:EncL c_s R1 o][H2:EncL QA R2 a]:LP T (n+3) 164 5 (frm [(3,.sl 0),(10,.imm 1 R2),(11,.i .i64 a2),(12,.i .i64 a3)]) [some (Ent.lst 1 R1)] =
  (run (A4 a a2) (o,a3)).map (λ(zr:(List (List UInt8)))=>(XE.exit 0,frm [(3,.sl 0)],[some (Ent.lst 1 (zr.map c_s))])):=by
 rcases H1,H2 with⟨⟨rfl⟩,⟨rfl⟩⟩
 rw[Qw];simp -dsimp only[↓evA,evB,Qt,func164,f164,y9,ep,TP,TZ,simprocAttr];apply QO o a3;intro o a3;simp -dsimp +contextual only[↓evA,eZ,simprocAttr,XK]
 try simp only[A4,eY]
 all_goals rfl
theorem Tg{R1 l}[H1:EncL QA R1 l]:CP T (n+4) 164 [.imm 1 R1]=(DK l).map λr=>.s r:=by
 obtain⟨rfl⟩:=H1;rw[Qp];simp -dsimp +contextual only[↓evA,eZ,simprocAttr,func164,f164,y9,ep,Eg,NB]
 try simp only[DK,eY]
 all_goals rfl
end Go.Proofs.YtoilkmgiofimjaaGreatDoor
