import Derived.Test.YtkgadcbajihilaaGreatDoorEq2
set_option maxHeartbeats 4000000
set_option linter.unusedVariables false
set_option linter.unusedSimpArgs false
set_option linter.defProp false
set_option maxRecDepth 100000
namespace Go.Proofs.YtkgadcbajihilaaGreatDoor
open Go Go.Proofs Go.Proofs.YtkgadcbajihilaaGreatDoor.Am Tryz
variable(n:Nat)
def W8{C l D a}[A:QC QZ C l][B:QD QZ D a]:CP T (n+4) 185 [.imm 5 C,.agg D]=(EP l a).map λr=>.tup [.own 5 (r.1.map QZ),.b r.2]:=by
 rcases A,B with⟨⟨rfl⟩,⟨rfl⟩⟩
 rw[QM];simp-dsimp+contextual only[↓QW,eZ,seval,func185,f185,Qff,qP,Ig,PS]
 try simp only[EP,eY]
 try simp only[List.contains_nil,Qi,Bool.and_true,T7,List.length_append,List.length_cons,List.length_nil,Nat.zero_add,th,jG]
 all_goals first|rfl|(simp +contextual only[B8]<;>rfl)
def Pm(i a oxNo oxNow o2 k){I a2 J oxFinds K oxSecrets L oxSlots M oxClaims N oxTrials O oxChain P oxBook}[A:QD Va I a2][B:QC Vn J oxFinds][C:QC VF K oxSecrets][D:QC VA L oxSlots][E:QC QZ M oxClaims][F:QC Vq N oxTrials][G:QC Vv O oxChain][H:QC Vx P oxBook]:LP T (n+1) 85 5 (Q7 [(1,.i .i64 i),(3,.i .i64 a),(4,.ptr 0 0 0),(8,.ptr 1 0 0),(10,.ptr 2 0 0),(12,.b o2),(13,.i .i64 k)]) [some (.box I),some (.box [.i .i64 0,.nil,.nil,.nil,.nil,.nil,.nil,.nil,.i .i64 0]),some (.box [.i .i64 oxNo,.sl 3,.sl 4,.sl 5,.sl 6,.sl 7,.sl 8,.sl 9,.i .i64 oxNow]),some (.lst 8 J),some (.lst 3 K),some (.lst 3 L),some (.lst 5 M),some (.lst 4 N),some (.lst 5 O),some (.lst 4 P)]=(run (AB i a a2 (⟨oxNo,oxFinds,oxSecrets,oxSlots,oxClaims,oxTrials,oxChain,oxBook,oxNow⟩:Ql) o2) k).map (λzr=>(XE.exit 0,Q7 [(1,.i .i64 i),(3,.i .i64 a),(4,.ptr 0 0 0),(8,.ptr 1 0 0),(10,.ptr 2 0 0),(12,.b o2),(13,.i .i64 zr)],[some (.box (Va a2)),some (.box [.i .i64 0,.nil,.nil,.nil,.nil,.nil,.nil,.nil,.i .i64 0]),some (.box [.i .i64 oxNo,.sl 3,.sl 4,.sl 5,.sl 6,.sl 7,.sl 8,.sl 9,.i .i64 oxNow]),some (.lst 8 (oxFinds.map Vn)),some (.lst 3 (oxSecrets.map VF)),some (.lst 3 (oxSlots.map VA)),some (.lst 5 (oxClaims.map QZ)),some (.lst 4 (oxTrials.map Vq)),some (.lst 5 (oxChain.map Vv)),some (.lst 4 (oxBook.map Vx))])):=by
 rcases A,B,C,D,E,F,G,H with⟨⟨rfl⟩,⟨rfl⟩,⟨rfl⟩,⟨rfl⟩,⟨rfl⟩,⟨rfl⟩,⟨rfl⟩,⟨rfl⟩⟩
 rw[QY];simp-dsimp only[↓QW,Xw,QV,func85,f85,QrZ,Qd1,TP,TZ,seval];apply Q5 k;intro k;simp-dsimp+contextual(maxSteps:=1000000)only[↓QW,eZ,seval,Ni]
 try simp only[AB,eY]
 try simp only[List.contains_nil,Qi,Bool.and_true,T7,List.length_append,List.length_cons,List.length_nil,Nat.zero_add,th,jG]
 repeat rfl
def Uo(i w a2){B a}[A:QD Va B a]:CP T (n+13) 85 [.agg B,.i .i64 i,.i .i64 w,.i .i64 a2]=(Ag a i w a2).map λr=>.tup [.agg (Xi r.1),.b r.2]:=by
 obtain⟨rfl⟩:=A;rw[QM];simp-dsimp+contextual(maxSteps:=1000000)only[↓QW,eZ,seval,func85,f85,QrZ,Qd1,Ni,Xz,W8,Gs,BW,Pm]
 try simp only[Ag,eY]
 try simp only[List.contains_nil,Qi,Bool.and_true,T7,List.length_append,List.length_cons,List.length_nil,Nat.zero_add,th,jG]
 repeat rfl
def OW(i i2){B l}[A:QC QZ B l]:LP T (n+1) 97 2 (Q7 [(0,.imm 5 B),(1,.i .i64 i),(5,.i .i64 i2)]) []=Xt (run (Ax l i) i2) (λzr=>(XE.ret,Q7 [(4,.i .i64 zr)],[])) (λzr=>(XE.exit 0,Q7 [],[])):=by
 obtain⟨rfl⟩:=A;rw[QY];simp-dsimp only[↓QW,Xw,QV,func97,f97,Qox,QcF,TP,TZ,seval];apply Q5 i2;intro i2;simp-dsimp+contextual only[↓QW,eZ,seval]
 try simp only[Ax,eY]
 repeat rfl
def Ge(i){B l}[A:QC QZ B l]:CP T (n+2) 97 [.imm 5 B,.i .i64 i]=(J7 l i).map λr=>.i .i64 r:=by
 obtain⟨rfl⟩:=A;rw[QM];simp-dsimp+contextual only[↓QW,eZ,seval,func97,f97,Qox,QcF,OW]
 try simp only[J7,eY]
 repeat rfl
def PN(c a){B l}[A:QC Xb B l]:CP T (n+5) 201 [.imm 2 B,.i .i64 c,.i .i64 a]=(ZW l c a).map λr=>.i .i64 r:=by
 obtain⟨rfl⟩:=A;rw[QM];simp-dsimp+contextual only[↓QW,eZ,seval,func201,f201,QlE,vC,I4,Vw,WU,cY]
 try simp only[ZW,eY]
 repeat rfl
def I5{C l D a}[A:QC Xb C l][B:QD Vq D a]:CP T (n+6) 98 [.imm 2 C,.agg D]=(XU l a).map λr=>.i .i64 r:=by
 rcases A,B with⟨⟨rfl⟩,⟨rfl⟩⟩
 rw[QM];simp-dsimp+contextual only[↓QW,eZ,seval,func98,f98,QwB,Qhh,Hx,PN]
 try simp only[XU,eY]
 repeat rfl
def P6(q i){B l}[A:QC Xb B l]:LP T (n+1) 272 2 (Q7 [(0,.imm 2 B),(1,.i .i64 q),(5,.i .i64 i)]) []=Xt (run (BN l q) i) (λzr=>(XE.ret,Q7 [(4,.i .i64 zr)],[])) (λzr=>(XE.exit 0,Q7 [],[])):=by
 obtain⟨rfl⟩:=A;rw[QY];simp-dsimp only[↓QW,Xw,QV,func272,f272,Qfp,oA,TP,TZ,seval];apply Q5 i;intro i;simp-dsimp+contextual only[↓QW,eZ,seval]
 try simp only[BN,eY]
 repeat rfl
def Yn(q){B l}[A:QC Xb B l]:CP T (n+2) 272 [.imm 2 B,.i .i64 q]=(Gy l q).map λr=>.i .i64 r:=by
 obtain⟨rfl⟩:=A;rw[QM];simp-dsimp+contextual only[↓QW,eZ,seval,func272,f272,Qfp,oA,P6]
 try simp only[Gy,eY]
 repeat rfl
def Sy(a2){C l D a}[A:QC Xb C l][B:QD Vq D a]:CP T (n+7) 187 [.imm 2 C,.agg D,.i .i64 a2]=(Ex l a a2).map λr=>.tup [.agg (Vq r.1),.b r.2]:=by
 rcases A,B with⟨⟨rfl⟩,⟨rfl⟩⟩
 rw[QM];simp-dsimp+contextual only[↓QW,eZ,seval,func187,f187,QnH,wu,I5,Yn]
 try simp only[Ex,eY]
 repeat rfl
def S3(c a2){B a}[A:QD Va B a]:CP T (n+13) 86 [.agg B,.i .i64 c,.i .i64 a2]=(A3 a c a2).map λr=>.tup [.agg (Xi r.1),.b r.2]:=by
 obtain⟨rfl⟩:=A;rw[QM];simp-dsimp+contextual(maxSteps:=1000000)only[↓QW,eZ,seval,func86,f86,Qyc,QkE,Ni,Xz,Ge,BZ,KH,Sy,Hx,BW]
 try simp only[A3,eY]
 repeat rfl
def M7(a k i){B l}[A:QC QZ B l]:LP T (n+1) 189 3 (Q7 [(0,.imm 5 B),(1,.i .i64 a),(5,.i .i64 k),(6,.i .i64 i)]) []=(run (V6 l a) (k,i)).map (λzr=>(XE.exit 0,Q7 [(0,.imm 5 (l.map QZ)),(5,.i .i64 zr)],[])):=by
 obtain⟨rfl⟩:=A;rw[QY];simp-dsimp only[↓QW,Xw,QV,func189,f189,QfJ,ov,TP,TZ,seval];apply Q2 k i;intro k i;simp-dsimp+contextual only[↓QW,eZ,seval]
 try simp only[V6,eY]
 repeat rfl
def Ks(a){B l}[A:QC QZ B l]:CP T (n+2) 189 [.imm 5 B,.i .i64 a]=(ZT l a).map λr=>.i .i64 r:=by
 obtain⟨rfl⟩:=A;rw[QM];simp-dsimp+contextual only[↓QW,eZ,seval,func189,f189,QfJ,ov,M7]
 try simp only[ZT,eY]
 repeat rfl
def TX(s i){B o}[A:QC VA B o]:LP T (n+1) 274 6 (Q7 [(6,.sl 0),(7,.i .i64 s),(8,.i .i64 i)]) [some (.lst 3 B)]=(run (JB s) (o,i)).map (λzr=>(XE.exit 0,Q7 [(6,.sl 0)],[some (.lst 3 (zr.map VA))])):=by
 obtain⟨rfl⟩:=A;rw[QY];simp-dsimp only[↓QW,Xw,QV,func274,f274,QfZ,qj,TP,TZ,seval];apply Q2 o i;intro o i;simp-dsimp+contextual only[↓QW,eZ,seval]
 try simp only[JB,eY]
 repeat rfl
def bw(a){B l}[A:QC VA B l]:CP T (n+4) 274 [.imm 3 B,.i .i64 a]=(FN l a).map λr=>.tup [.own 3 (r.1.map VA),.b r.2]:=by
 obtain⟨rfl⟩:=A;rw[QM];simp-dsimp+contextual only[↓QW,eZ,seval,func274,f274,QfZ,qj,Gs,I1,TX]
 try simp only[FN,eY]
 all_goals first|rfl|(simp +contextual only[B8]<;>rfl)
def Ll(a2 a3 w){B a}[A:QD Va B a]:CP T (n+9) 190 [.agg B,.i .i64 a2,.i .i64 a3,.i .i64 w]=(CQ a a2 a3 w).map λr=>.tup [.agg (Xi r.1),.b r.2]:=by
 obtain⟨rfl⟩:=A;rw[QM];simp-dsimp+contextual(maxSteps:=1000000)only[↓QW,eZ,seval,func190,f190,Qn2,yG,Xz,bw,NG]
 try simp only[CQ,eY]
 repeat rfl
def W6(i s){B l}[A:QC QZ B l]:CP T (n+4) 191 [.imm 5 B,.i .i64 i,.i .i64 s]=(GL l i s).map λr=>.tup [.own 5 (r.1.map QZ),.b r.2]:=by
 obtain⟨rfl⟩:=A;rw[QM];simp-dsimp+contextual only[↓QW,eZ,seval,func191,f191,QmV,ww,Ge,Ig]
 try simp only[GL,eY]
 all_goals first|rfl|(simp +contextual only[B8]<;>rfl)
def dM(d){B a}[A:QD CW B a]:CP T (n+3) 193 [.agg B,.i .i64 d]=(IG a d).map λr=>.i .i64 r:=by
 obtain⟨rfl⟩:=A;rw[QM];simp-dsimp+contextual only[↓QW,eZ,seval,func193,f193,Qls,xE,Kk,Vw,bG]
 try simp only[IG,eY]
 repeat rfl
def Yu{C l D a}[A:QC Vx C l][B:QD Vx D a]:CP T (n+4) 275 [.imm 4 C,.agg D]=(EM l a).map λr=>.tup [.own 4 (r.1.map Vx),.b r.2]:=by
 rcases A,B with⟨⟨rfl⟩,⟨rfl⟩⟩
 rw[QM];simp-dsimp+contextual only[↓QW,eZ,seval,func275,f275,QrN,uE,HV]
 try simp only[EM,eY]
 try simp only[List.contains_nil,Qi,Bool.and_true,T7,List.length_append,List.length_cons,List.length_nil,Nat.zero_add,th,jG]
 all_goals first|rfl|(simp +contextual only[B8]<;>rfl)
def PE(axNo axNow f a2 c){H axFinds I axSecrets J axSlots K axClaims L axTrials M axChain N axBook}[A:QC Vn H axFinds][B:QC VF I axSecrets][C:QC VA J axSlots][D:QC QZ K axClaims][E:QC Vq L axTrials][F:QC Vv M axChain][G:QC Vx N axBook]:CM T (n+5) 192 [some (.lst 8 H),some (.lst 3 I),some (.lst 3 J),some (.lst 5 K),some (.lst 4 L),some (.lst 5 M),some (.lst 4 N)] [.agg [.i .i64 axNo,.sl 0,.sl 1,.sl 2,.sl 3,.sl 4,.sl 5,.sl 6,.i .i64 axNow],.i .i64 f,.i .i64 a2,.i .i64 c]=(CE (⟨axNo,axFinds,axSecrets,axSlots,axClaims,axTrials,axChain,axBook,axNow⟩:Ql) f a2 c).map λr=>.tup [.agg (Xi r.1),.b r.2]:=by
 rcases A,B,C,D,E,F,G with⟨⟨rfl⟩,⟨rfl⟩,⟨rfl⟩,⟨rfl⟩,⟨rfl⟩,⟨rfl⟩,⟨rfl⟩⟩
 rw[Y8];simp-dsimp+contextual(maxSteps:=1000000)only[↓QW,eZ,seval,func192,f192,QoL,vf,Yu]
 try simp only[CE,eY]
 repeat rfl
def U0(a2){B a}[A:QD Va B a]:CP T (n+13) 87 [.agg B,.i .i64 a2]=(BV a a2).map λr=>.tup [.agg (Xi r.1),.b r.2]:=by
 obtain⟨rfl⟩:=A;rw[QM];simp-dsimp+contextual(maxSteps:=1000000)only[↓QW,eZ,seval,func87,f87,QxO,Qjn,Ni,Ks,Ja,BZ,Xz,Ge,Ll,W6,dM,PE,BW]
 try simp only[BV,eY]
 try simp only[List.contains_nil,Qi,Bool.and_true,T7,List.length_append,List.length_cons,List.length_nil,Nat.zero_add,th,jG]
 repeat rfl
def TL(i k){B l}[A:QC JK B l]:LP T (n+1) 277 7 (Q7 [(0,.imm 3 B),(3,.i .i64 i),(4,.i .i64 k)]) []=Xt (run (AW l i) k) (λzr=>(XE.ret,Q7 [(2,.b zr)],[])) (λzr=>(XE.exit 2,Q7 [(0,.imm 3 (l.map JK)),(3,.i .i64 i)],[])):=by
 obtain⟨rfl⟩:=A;rw[QY];simp-dsimp only[↓QW,Xw,QV,func277,f277,xc,ky,TP,TZ,seval];apply Q5 k;intro k;simp-dsimp+contextual only[↓QW,eZ,seval]
 try simp only[AW,eY]
 repeat rfl
def Sk(i){B l}[A:QC JK B l]:LP T (n+2) 277 2 (Q7 [(0,.imm 3 B),(3,.i .i64 i)]) []=Xt (run (AZ l) i) (λzr=>(XE.ret,Q7 [(2,.b zr)],[])) (λzr=>(XE.exit 0,Q7 [(0,.imm 3 (l.map JK))],[])):=by
 obtain⟨rfl⟩:=A;rw[QY];simp-dsimp only[↓QW,Xw,QV,func277,f277,xc,ky,TP,TZ,seval];apply Q5 i;intro i;simp-dsimp+contextual only[↓QW,eZ,seval,Vw,TL]
 try simp only[AZ,eY]
 repeat rfl
def b9{B l}[A:QC JK B l]:CP T (n+3) 277 [.imm 3 B]=(Ke l).map λr=>.b r:=by
 obtain⟨rfl⟩:=A;rw[QM];simp-dsimp+contextual only[↓QW,eZ,seval,func277,f277,xc,ky,Sk]
 try simp only[Ke,eY]
 repeat rfl
def OP(i k){C l D o}[A:QC JK C l][B:QC JK D o]:LP T (n+1) 278 6 (Q7 [(0,.imm 3 C),(3,.sl 0),(4,.i .i64 i),(5,.i .i64 k)]) [some (.lst 3 D)]=(run (An l o i) k).map (λzr=>(XE.exit 2,Q7 [(0,.imm 3 (l.map JK)),(3,.sl 0),(4,.i .i64 i),(5,.i .i64 zr)],[some (.lst 3 (o.map JK))])):=by
 rcases A,B with⟨⟨rfl⟩,⟨rfl⟩⟩
 rw[QY];simp-dsimp only[↓QW,Xw,QV,func278,f278,u9,jf,TP,TZ,seval];apply Q5 k;intro k;simp-dsimp+contextual only[↓QW,eZ,seval]
 try simp only[An,eY]
 try simp only[List.contains_nil,Qi,Bool.and_true,T7,List.length_append,List.length_cons,List.length_nil,Nat.zero_add,th,jG]
 repeat rfl
def Pq(i){C l D o}[A:QC JK C l][B:QC JK D o]:LP T (n+2) 278 3 (Q7 [(0,.imm 3 C),(3,.sl 0),(4,.i .i64 i)]) [some (.lst 3 D)]=(run (Zg l) (o,i)).map (λzr=>(XE.exit 0,Q7 [(3,.sl 0)],[some (.lst 3 (zr.map JK))])):=by
 rcases A,B with⟨⟨rfl⟩,⟨rfl⟩⟩
 rw[QY];simp-dsimp only[↓QW,Xw,QV,func278,f278,u9,jf,TP,TZ,seval];apply Q2 o i;intro o i;simp-dsimp+contextual only[↓QW,eZ,seval,OP]
 try simp only[Zg,eY]
 try simp only[List.contains_nil,Qi,Bool.and_true,T7,List.length_append,List.length_cons,List.length_nil,Nat.zero_add,th,jG]
 repeat rfl
def UR{B l}[A:QC JK B l]:CP T (n+3) 278 [.imm 3 B]=(Fy l).map λr=>.own 3 (r.map JK):=by
 obtain⟨rfl⟩:=A;rw[QM];simp-dsimp+contextual only[↓QW,eZ,seval,func278,f278,u9,jf,Pq]
 try simp only[Fy,eY]
 try simp only[List.contains_nil,Qi,Bool.and_true,T7,List.length_append,List.length_cons,List.length_nil,Nat.zero_add,th,jG]
 all_goals first|rfl|(simp +contextual only[B8]<;>rfl)
def dH{B l}[A:QC JK B l]:CP T (n+4) 194 [.imm 3 B]=(IC l).map λr=>.tup [.i .i64 r.1,.i .i64 r.2]:=by
 obtain⟨rfl⟩:=A;rw[QM];simp-dsimp+contextual only[↓QW,eZ,Nat.reduceAdd,Nat.reduceMul,Nat.reduceBEq,Nat.reduceLeDiff,Nat.reduceLT,func194,f194,QsI,zx,b9,UR]
 try simp only[IC,eY]
 repeat rfl
def W7(k):CP T (n+2) 337 [.i .i64 k]=(GF k).map λr=>.i .i64 r:=by
 rw[QM];simp-dsimp+contextual only[↓QW,eZ,seval,func337,f337,QoW,Qbd,Vw]
 try simp only[GF,eY]
 repeat rfl
def aV{B f}[A:QD Vn B f]:CP T (n+4) 280 [.agg B]=(HK f).map λr=>.i .i64 r:=by
 obtain⟨rfl⟩:=A;rw[QM];simp-dsimp+contextual only[↓QW,eZ,seval,func280,f280,QmQ,zD,Iu,W7]
 try simp only[HK,eY]
 repeat rfl
def L6(a){B f}[A:QD Vn B f]:CP T (n+5) 196 [.agg B,.i .i64 a]=(ZQ f a).map λr=>.b r:=by
 obtain⟨rfl⟩:=A;rw[QM];simp-dsimp+contextual only[↓QW,eZ,seval,func196,f196,Qpp,Qa6,Iu,aV]
 try simp only[ZQ,eY]
 repeat rfl
def Uq(a i){C l D f}[A:QC QZ C l][B:QD Vn D f]:LP T (n+1) 103 4 (Q7 [(1,.imm 5 C),(2,.i .i64 a),(3,.ptr 0 0 0),(7,.i .i64 i)]) [some (.box D)]=Xt (run (Da l a f) i) (λzr=>(XE.ret,Q7 [(6,.i .i64 zr)],[])) (λzr=>(XE.exit 0,Q7 [(2,.i .i64 a),(3,.ptr 0 0 0)],[some (.box (Vn f))])):=by
 rcases A,B with⟨⟨rfl⟩,⟨rfl⟩⟩
 rw[QY];simp-dsimp only[↓QW,Xw,QV,func103,f103,QfV,oM,TP,TZ,seval];apply Q5 i;intro i;simp-dsimp+contextual only[↓QW,eZ,seval]
 try simp only[Da,eY]
 repeat rfl
def Lq(a){C f D l}[A:QD Vn C f][B:QC QZ D l]:CP T (n+6) 103 [.agg C,.imm 5 D,.i .i64 a]=(DR f l a).map λr=>.i .i64 r:=by
 rcases A,B with⟨⟨rfl⟩,⟨rfl⟩⟩
 rw[QM];simp-dsimp+contextual only[↓QW,eZ,seval,func103,f103,QfV,oM,Ks,L6,Uq]
 try simp only[DR,eY]
 repeat rfl
def N6(c s i){C p D o}[A:QC Q9 C p][B:QC Q9 D o]:LP T (n+2) 279 4 (Q7 [(0,.i .i64 c),(1,.imm 1 C),(5,.sl 0),(6,.i .i64 s),(7,.i .i64 i)]) [some (.lst 1 D)]=Xt (run (ZK c p o) (s,i)) (λzr=>(XE.ret,Q7 [(4,.sl 0)],[some (.lst 1 (zr.map Q9))])) (λzr=>(XE.exit 0,Q7 [(0,.i .i64 c),(1,.imm 1 (p.map Q9)),(5,.sl 0),(6,.i .i64 zr)],[some (.lst 1 (o.map Q9))])):=by
 rcases A,B with⟨⟨rfl⟩,⟨rfl⟩⟩
 rw[QY];simp-dsimp only[↓QW,Xw,QV,func279,f279,oG,fB,TP,TZ,seval];apply Q2 s i;intro s i;simp-dsimp+contextual only[↓QW,eZ,seval,Vw]
 try simp only[ZK,eY]
 repeat rfl
def Ng(c s l i){C p D o}[A:QC Q9 C p][B:QC Q9 D o]:LP T (n+1) 279 13 (Q7 [(0,.i .i64 c),(1,.imm 1 C),(5,.sl 0),(6,.i .i64 s),(8,.i .i64 l),(9,.i .i64 i)]) [some (.lst 1 D)]=(run (Jf c p s) (o,l,i)).map (λzr=>(XE.exit 2,Q7 [(5,.sl 0),(8,.i .i64 zr.2)],[some (.lst 1 (zr.1.map Q9))])):=by
 rcases A,B with⟨⟨rfl⟩,⟨rfl⟩⟩
 rw[QY];simp-dsimp only[↓QW,Xw,QV,func279,f279,oG,fB,TP,TZ,seval];apply Ba o l i;intro o l i;simp-dsimp+contextual only[↓QW,eZ,seval]
 try simp only[Jf,eY]
 repeat rfl
def Nb(l i){B o}[A:QC Q9 B o]:LP T (n+1) 279 18 (Q7 [(5,.sl 0),(8,.i .i64 l),(10,.i .i64 i)]) [some (.lst 1 B)]=(run (Zq l) (o,i)).map (λzr=>(XE.exit 4,Q7 [(5,.sl 0)],[some (.lst 1 (zr.map Q9))])):=by
 obtain⟨rfl⟩:=A;rw[QY];simp-dsimp only[↓QW,Xw,QV,func279,f279,oG,fB,TP,TZ,seval];apply Q2 o i;intro o i;simp-dsimp+contextual only[↓QW,eZ,seval]
 try simp only[Zq,eY]
 repeat rfl
def Tw(c){B p}[A:QC Q9 B p]:CP T (n+3) 279 [.i .i64 c,.imm 1 B]=(En c p).map λr=>.own 1 (r.map Q9):=by
 obtain⟨rfl⟩:=A;rw[QM];simp-dsimp+contextual only[↓QW,eZ,seval,func279,f279,oG,fB,Vw,N6,Ng,Nb]
 try simp only[En,eY]
 all_goals first|rfl|(simp +contextual only[B8]<;>rfl)
def aT(p f):CP T (n+4) 195 [.i .i64 p,.i .i64 f]=(F2 p f).map λr=>.own 2 (r.map RG):=by
 rw[QM];simp-dsimp+contextual only[↓QW,eZ,Nat.reduceAdd,Nat.reduceMul,Nat.reduceBEq,Nat.reduceLeDiff,Nat.reduceLT,func195,f195,Qlq,xP,Vw,Tw]
 try simp only[F2,eY]
 all_goals first|rfl|(simp +contextual only[B8]<;>rfl)
def Yh(a2){C a D b}[A:QD Va C a][B:QC JK D b]:CP T (n+13) 88 [.agg C,.i .i64 a2,.imm 3 D]=(C0 a a2 b).map λr=>.tup [.agg (Xi r.1),.b r.2]:=by
 rcases A,B with⟨⟨rfl⟩,⟨rfl⟩⟩
 rw[QM];simp-dsimp+contextual(maxSteps:=1000000)only[↓QW,eZ,Nat.reduceAdd,Nat.reduceMul,Nat.reduceBEq,Nat.reduceLeDiff,Nat.reduceLT,func88,f88,Qyb,Qh8,Ni,Ja,dH,BZ,Lq,Xz,Ll,PE,aT,BW]
 try simp only[C0,eY]
 try simp only[List.contains_nil,Qi,Bool.and_true,T7,List.length_append,List.length_cons,List.length_nil,Nat.zero_add,th,jG]
 repeat rfl
def UG(a2){B a}[A:QD Va B a]:CP T (n+13) 89 [.agg B,.i .i64 a2]=(BX a a2).map λr=>.tup [.agg (Xi r.1),.b r.2]:=by
 obtain⟨rfl⟩:=A;rw[QM];simp-dsimp+contextual(maxSteps:=1000000)only[↓QW,eZ,seval,func89,f89,Qxd,Qg8,Ni,Ja,BZ,Xz,Lq,Ll,BW]
 try simp only[BX,eY]
 try simp only[List.contains_nil,Qi,Bool.and_true,T7,List.length_append,List.length_cons,List.length_nil,Nat.zero_add,th,jG]
 repeat rfl
def Yy(a2){B a}[A:QD Va B a]:CP T (n+13) 90 [.agg B,.i .i64 a2]=(CX a a2).map λr=>.tup [.agg (Xi r.1),.b r.2]:=by
 obtain⟨rfl⟩:=A;rw[QM];simp-dsimp+contextual(maxSteps:=1000000)only[↓QW,eZ,seval,func90,f90,Qwx,Qkz,Ni,Xz,Vw,BW]
 try simp only[CX,eY]
 repeat rfl
def RU{C a D e}[A:QD Va C a][B:QD gj D e]:CP T (n+14) 29 [.agg C,.agg D]=(AY a e).map λr=>.tup [.agg (Xi r.1),.b r.2]:=by
 rcases A,B with⟨⟨rfl⟩,⟨rfl⟩⟩
 rw[QM];simp-dsimp+contextual(maxSteps:=1000000)only[↓QW,eZ,seval,func29,f29,Qx0,Qhx,W9,Uo,S3,U0,Yh,UG,Yy,Xz]
 try simp only[AY,eY]
 repeat rfl
def OL(a i){C l D o}[A:QC Vn C l][B:QC Q9 D o]:LP T (n+6) 91 3 (Q7 [(0,.imm 8 C),(1,.i .i64 a),(5,.sl 0),(6,.i .i64 i)]) [some (.lst 1 D)]=(run (AN l a) (o,i)).map (λzr=>(XE.exit 0,Q7 [(5,.sl 0)],[some (.lst 1 (zr.map Q9))])):=by
 rcases A,B with⟨⟨rfl⟩,⟨rfl⟩⟩
 rw[QY];simp-dsimp only[↓QW,Xw,QV,func91,f91,QmM,QeI,TP,TZ,seval];apply Q2 o i;intro o i;simp-dsimp+contextual only[↓QW,eZ,seval,L6]
 try simp only[AN,eY]
 repeat rfl
def Uf(a){B l}[A:QC Vn B l]:CP T (n+7) 91 [.imm 8 B,.i .i64 a]=(DC l a).map λr=>.own 1 (r.map Q9):=by
 obtain⟨rfl⟩:=A;rw[QM];simp-dsimp+contextual only[↓QW,eZ,seval,func91,f91,QmM,QeI,OL]
 try simp only[DC,eY]
 all_goals first|rfl|(simp +contextual only[B8]<;>rfl)
def M3(i){C l D o}[A:QC VA C l][B:QC Ij D o]:LP T (n+3) 92 3 (Q7 [(0,.imm 3 C),(3,.sl 0),(4,.i .i64 i)]) [some (.lst 1 D)]=(run (Zl l) (o,i)).map (λzr=>(XE.exit 0,Q7 [(3,.sl 0)],[some (.lst 1 (zr.map Ij))])):=by
 rcases A,B with⟨⟨rfl⟩,⟨rfl⟩⟩
 rw[QY];simp-dsimp only[↓QW,Xw,QV,func92,f92,QpW,QdT,TP,TZ,seval];apply Q2 o i;intro o i;simp-dsimp+contextual only[↓QW,eZ,seval,Je]
 try simp only[Zl,eY]
 repeat rfl
def Ra{B l}[A:QC VA B l]:CP T (n+4) 92 [.imm 3 B]=(Bt l).map λr=>.s r:=by
 obtain⟨rfl⟩:=A;rw[QM];simp-dsimp+contextual only[↓QW,eZ,seval,func92,f92,QpW,QdT,Kz,M3]
 try simp only[Bt,eY]
 repeat rfl
def Mf(i){C l D o}[A:QC QZ C l][B:QC Ij D o]:LP T (n+3) 93 3 (Q7 [(0,.imm 5 C),(3,.sl 0),(4,.i .i64 i)]) [some (.lst 1 D)]=(run (JM l) (o,i)).map (λzr=>(XE.exit 0,Q7 [(3,.sl 0)],[some (.lst 1 (zr.map Ij))])):=by
 rcases A,B with⟨⟨rfl⟩,⟨rfl⟩⟩
 rw[QY];simp-dsimp only[↓QW,Xw,QV,func93,f93,Qqz,QcY,TP,TZ,seval];apply Q2 o i;intro o i;simp-dsimp+contextual only[↓QW,eZ,seval,Vw,Je]
 try simp only[JM,eY]
 repeat rfl
def OM{B l}[A:QC QZ B l]:CP T (n+4) 93 [.imm 5 B]=(AG l).map λr=>.s r:=by
 obtain⟨rfl⟩:=A;rw[QM];simp-dsimp+contextual only[↓QW,eZ,seval,func93,f93,Qqz,QcY,Kz,Mf]
 try simp only[AG,eY]
 repeat rfl
def Rq{B a}[A:QD Va B a]:CP T (n+5) 94 [.agg B]=(BH a).map λr=>.s r:=by
 obtain⟨rfl⟩:=A;rw[QM];simp-dsimp+contextual(maxSteps:=1000000)only[↓QW,eZ,seval,func94,f94,Qyw,Qg1,FJ]
 try simp only[BH,eY]
 repeat rfl
def S6(a i){C l D o}[A:QC Vv C l][B:QC Vv D o]:LP T (n+1) 203 3 (Q7 [(0,.imm 5 C),(1,.i .i64 a),(5,.sl 0),(6,.i .i64 i)]) [some (.lst 5 D)]=(run (X8 l a) (o,i)).map (λzr=>(XE.exit 0,Q7 [(5,.sl 0)],[some (.lst 5 (zr.map Vv))])):=by
 rcases A,B with⟨⟨rfl⟩,⟨rfl⟩⟩
 rw[QY];simp-dsimp only[↓QW,Xw,QV,func203,f203,Qge,qk,TP,TZ,seval];apply Q2 o i;intro o i;simp-dsimp+contextual only[↓QW,eZ,seval]
 try simp only[X8,eY]
 repeat rfl
def Oa(a){B l}[A:QC Vv B l]:CP T (n+2) 203 [.imm 5 B,.i .i64 a]=(CH l a).map λr=>.own 5 (r.map Vv):=by
 obtain⟨rfl⟩:=A;rw[QM];simp-dsimp+contextual only[↓QW,eZ,seval,func203,f203,Qge,qk,S6]
 try simp only[CH,eY]
 all_goals first|rfl|(simp +contextual only[B8]<;>rfl)
def Nh(i2){C a D i}[A:QD Va C a][B:QC Q9 D i]:LP T (n+3) 197 3 (Q7 [(1,.ptr 0 0 0),(3,.sl 1),(4,.i .i64 i2)]) [some (.box C),some (.lst 1 D)]=Xt (run (Zm a i) i2) (λzr=>(XE.ret,Q7 [(2,.b zr)],[])) (λzr=>(XE.exit 0,Q7 [],[])):=by
 rcases A,B with⟨⟨rfl⟩,⟨rfl⟩⟩
 rw[QY];simp-dsimp only[↓QW,Xw,QV,func197,f197,QgM,qh,TP,TZ,seval];apply Q5 i2;intro i2;simp-dsimp+contextual(maxSteps:=1000000)only[↓QW,eZ,seval,Oa,Gs,L8]
 try simp only[Zm,eY]
 repeat rfl
def PM{B a}[A:QD Va B a]:CP T (n+10) 197 [.agg B]=(Dv a).map λr=>.b r:=by
 obtain⟨rfl⟩:=A;rw[QM];simp-dsimp+contextual(maxSteps:=1000000)only[↓QW,eZ,seval,func197,f197,QgM,qh,Nt,Nh]
 try simp only[Dv,eY]
 repeat rfl
def NL(i){C a D a2}[A:QD Va C a][B:QD Vv D a2]:LP T (n+1) 281 2 (Q7 [(2,.ptr 0 0 0),(3,.ptr 1 0 0),(5,.i .i64 i)]) [some (.box C),some (.box D)]=Xt (run (ZB a a2) i) (λzr=>(XE.ret,Q7 [(4,.b zr)],[])) (λzr=>(XE.exit 0,Q7 [],[])):=by
 rcases A,B with⟨⟨rfl⟩,⟨rfl⟩⟩
 rw[QY];simp-dsimp only[↓QW,Xw,QV,func281,f281,Qgg,pf,TP,TZ,seval];apply Q5 i;intro i;simp-dsimp+contextual(maxSteps:=1000000)only[↓QW,eZ,seval]
 try simp only[ZB,eY]
 repeat rfl
def KR{C a D a2}[A:QD Va C a][B:QD Vv D a2]:CP T (n+2) 281 [.agg C,.agg D]=(Ci a a2).map λr=>.b r:=by
 rcases A,B with⟨⟨rfl⟩,⟨rfl⟩⟩
 rw[QM];simp-dsimp+contextual(maxSteps:=1000000)only[↓QW,eZ,seval,func281,f281,Qgg,pf,NL]
 try simp only[Ci,eY]
 repeat rfl
def Pj(i){B a}[A:QD Va B a]:LP T (n+3) 198 2 (Q7 [(1,.ptr 0 0 0),(3,.i .i64 i)]) [some (.box B)]=Xt (run (Ay a) i) (λzr=>(XE.ret,Q7 [(2,.b zr)],[])) (λzr=>(XE.exit 0,Q7 [],[])):=by
 obtain⟨rfl⟩:=A;rw[QY];simp-dsimp only[↓QW,Xw,QV,func198,f198,Qfg,oY,TP,TZ,seval];apply Q5 i;intro i;simp-dsimp+contextual(maxSteps:=1000000)only[↓QW,eZ,seval,Ja,KR]
 try simp only[Ay,eY]
 repeat rfl
def Un{B a}[A:QD Va B a]:CP T (n+4) 198 [.agg B]=(Fs a).map λr=>.b r:=by
 obtain⟨rfl⟩:=A;rw[QM];simp-dsimp+contextual(maxSteps:=1000000)only[↓QW,eZ,seval,func198,f198,Qfg,oY,Pj]
 try simp only[Fs,eY]
 repeat rfl
def MA(i){B a}[A:QD Va B a]:LP T (n+6) 199 2 (Q7 [(1,.ptr 0 0 0),(3,.i .i64 i)]) [some (.box B)]=Xt (run (JQ a) i) (λzr=>(XE.ret,Q7 [(2,.b zr)],[])) (λzr=>(XE.exit 0,Q7 [],[])):=by
 obtain⟨rfl⟩:=A;rw[QY];simp-dsimp only[↓QW,Xw,QV,func199,f199,Qgc,qc,TP,TZ,seval];apply Q5 i;intro i;simp-dsimp+contextual(maxSteps:=1000000)only[↓QW,eZ,seval,Ja,KR,L6]
 try simp only[JQ,eY]
 repeat rfl
def O4{B a}[A:QD Va B a]:CP T (n+7) 199 [.agg B]=(CO a).map λr=>.b r:=by
 obtain⟨rfl⟩:=A;rw[QM];simp-dsimp+contextual(maxSteps:=1000000)only[↓QW,eZ,seval,func199,f199,Qgc,qc,MA]
 try simp only[CO,eY]
 repeat rfl
def NZ(i){C l D o}[A:QC Vx C l][B:QC Q9 D o]:LP T (n+3) 282 3 (Q7 [(0,.imm 4 C),(3,.sl 0),(4,.i .i64 i)]) [some (.lst 1 D)]=(run (ZR l) (o,i)).map (λzr=>(XE.exit 0,Q7 [(3,.sl 0)],[some (.lst 1 (zr.map Q9))])):=by
 rcases A,B with⟨⟨rfl⟩,⟨rfl⟩⟩
 rw[QY];simp-dsimp only[↓QW,Xw,QV,func282,f282,Qf1,qA,TP,TZ,seval];apply Q2 o i;intro o i;simp-dsimp+contextual only[↓QW,eZ,seval,TC]
 try simp only[ZR,eY]
 repeat rfl
def SJ{B l}[A:QC Vx B l]:CP T (n+4) 282 [.imm 4 B]=(Cx l).map λr=>.own 1 (r.map Q9):=by
 obtain⟨rfl⟩:=A;rw[QM];simp-dsimp+contextual only[↓QW,eZ,seval,func282,f282,Qf1,qA,NZ]
 try simp only[Cx,eY]
 all_goals first|rfl|(simp +contextual only[B8]<;>rfl)
def Tv(a a2 i){B l}[A:QC Vx B l]:LP T (n+4) 105 3 (Q7 [(0,.imm 4 B),(1,.i .i64 a),(5,.i .i64 a2),(6,.i .i64 i)]) []=(run (AX l a) (a2,i)).map (λzr=>(XE.exit 0,Q7 [(5,.i .i64 zr)],[])):=by
 obtain⟨rfl⟩:=A;rw[QY];simp-dsimp only[↓QW,Xw,QV,func105,f105,Qfm,pF,TP,TZ,seval];apply Q2 a2 i;intro a2 i;simp-dsimp+contextual only[↓QW,eZ,seval,HV]
 try simp only[AX,eY]
 repeat rfl
def KG(a){B l}[A:QC Vx B l]:CP T (n+5) 105 [.imm 4 B,.i .i64 a]=(Z6 l a).map λr=>.i .i64 r:=by
 obtain⟨rfl⟩:=A;rw[QM];simp-dsimp+contextual only[↓QW,eZ,seval,func105,f105,Qfm,pF,Tv]
 try simp only[Z6,eY]
 repeat rfl
def N5(a2 i){C a D a3}[A:QD Va C a][B:QC Q9 D a3]:LP T (n+6) 200 4 (Q7 [(1,.ptr 0 0 0),(3,.i .i64 a2),(4,.sl 1),(5,.i .i64 i)]) [some (.box C),some (.lst 1 D)]=(run (BU a a3) (a2,i)).map (λzr=>(XE.exit 0,Q7 [(1,.ptr 0 0 0),(3,.i .i64 zr)],[some (.box (Va a))])):=by
 rcases A,B with⟨⟨rfl⟩,⟨rfl⟩⟩
 rw[QY];simp-dsimp only[↓QW,Xw,QV,func200,f200,Qfc,ow,TP,TZ,seval];apply Q2 a2 i;intro a2 i;simp-dsimp+contextual(maxSteps:=1000000)only[↓QW,eZ,seval,KG]
 try simp only[BU,eY]
 repeat rfl
def SH{B a}[A:QD Va B a]:CP T (n+7) 200 [.agg B]=(Es a).map λr=>.b r:=by
 obtain⟨rfl⟩:=A;rw[QM];simp-dsimp+contextual(maxSteps:=1000000)only[↓QW,eZ,seval,func200,f200,Qfc,ow,SJ,KG,N5]
 try simp only[Es,eY]
 repeat rfl
def ce{B a}[A:QD Va B a]:CP T (n+12) 95 [.agg B]=(FQ a).map λr=>.s r:=by
 obtain⟨rfl⟩:=A;rw[QM];simp-dsimp+contextual(maxSteps:=1000000)only[↓QW,eZ,seval,func95,f95,Qyz,Qjh,BZ,PM,Un,O4,SH]
 try simp only[FQ,eY]
 repeat rfl
def bg(w){B a}[A:QD Va B a]:CP T (n+13) 30 [.agg B,.s w]=(J4 a w).map λr=>.s r:=by
 obtain⟨rfl⟩:=A;rw[QM];simp-dsimp+contextual(maxSteps:=1000000)only[↓QW,eZ,seval,func30,f30,Qxn,Qg3,Uf,FJ,Ra,OM,Rq,ce]
 try simp only[J4,eY]
 repeat rfl
def Tk(c i){C a D a2}[A:QD Va C a][B:QD Vq D a2]:LP T (n+1) 96 2 (Q7 [(1,.i .i64 c),(2,.ptr 0 0 0),(4,.ptr 1 0 0),(6,.i .i64 i)]) [some (.box C),some (.box D)]=Xt (run (Cw c a a2) i) (λzr=>(XE.ret,Q7 [(4,.ptr 0 0 0),(5,.b zr.2)],[some (.box (Vq zr.1))])) (λzr=>(XE.exit 0,Q7 [(4,.ptr 0 0 0)],[some (.box (Vq a2))])):=by
 rcases A,B with⟨⟨rfl⟩,⟨rfl⟩⟩
 rw[QY];simp-dsimp only[↓QW,Xw,QV,func96,f96,QoN,QeK,TP,TZ,seval];apply Q5 i;intro i;simp-dsimp+contextual(maxSteps:=1000000)only[↓QW,eZ,seval]
 try simp only[Cw,eY]
 repeat rfl
def aM(c){B a}[A:QD Va B a]:CP T (n+2) 96 [.agg B,.i .i64 c]=(Gh a c).map λr=>.tup [.agg (Vq r.1),.b r.2]:=by
 obtain⟨rfl⟩:=A;rw[QM];simp-dsimp+contextual(maxSteps:=1000000)only[↓QW,eZ,seval,func96,f96,QoN,QeK,Tk]
 try simp only[Gh,eY]
 repeat rfl
def T1(a):CP T (n+2) 204 [.i .i64 a]=(Zw a).map λr=>.s r:=by
 rw[QM];simp-dsimp+contextual only[↓QW,eZ,seval,func204,f204,Qmy,zg,Vw]
 try simp only[Zw,eY]
 repeat rfl
end Go.Proofs.YtkgadcbajihilaaGreatDoor
