import Derived.Test.YtfhnbabcbhgffaaGreatDoorEc
set_option maxHeartbeats 4000000
set_option linter.unusedVariables false
set_option linter.unusedSimpArgs false
set_option linter.defProp false
set_option maxRecDepth 100000
namespace Go.Proofs.YtfhnbabcbhgffaaGreatDoor
open Go Go.Proofs Go.Proofs.YtfhnbabcbhgffaaGreatDoor.Am Tryz
variable(n:Nat)
def iG{B c}[A:QC Hn B c]:CP T (n+1) 4 [.imm 1 B]=(Se c).map λr=>.b r:=by
 obtain⟨rfl⟩:=A;rw[QU];simp-dsimp+contextual only[↓QW,eZ,seval,func4,f4,Aa4,An4]
 try simp only[Se,eY]
 repeat rfl
def Ub(a i){B c}[A:QC Hn B c]:LP T (n+1) 12 3 (Vm [(0,.imm 1 B),(3,.i .i64 a),(4,.i .i64 i)]) []=(run (A6 c) (a,i)).map (λzr=>(XE.exit 0,Vm [(0,.imm 1 (c.map Hn)),(3,.i .i64 zr)],[])):=by
 obtain⟨rfl⟩:=A;rw[Vh];simp-dsimp only[↓QW,Zt,QX,func12,f12,Qlx,yQ,TP,TZ,seval];apply VF a i;intro a i;simp-dsimp+contextual only[↓QW,eZ,seval]
 try simp only[A6,eY]
 repeat rfl
def Sm{B c}[A:QC Hn B c]:CA T (n+2) 12 [] [.imm 1 B]=(Hc c).map λr=>(.ptr 0 0 0,[some (.box (XO r))]):=by
 obtain⟨rfl⟩:=A;rw[HM];simp-dsimp+contextual(maxSteps:=1000000)only[↓QW,eZ,seval,func12,f12,Qlx,yQ,Ub]
 try simp only[Hc,eY]
 repeat rfl
def aG{B c}[A:QD XO B c]:CA T (n+1) 93 [some (.box B)] [.ptr 0 0 0]=(Dp c).map λr=>(.i .i64 r.2,[some (.box (XO r.1))]):=by
 obtain⟨rfl⟩:=A;rw[HM];simp-dsimp+contextual(maxSteps:=1000000)only[↓QW,eZ,seval,func93,f93,QoE,Qdr]
 try simp only[Dp,eY]
 repeat rfl
def XB(a){B c}[A:QD XO B c]:CA T (n+2) 35 [some (.box B)] [.ptr 0 0 0,.i .i64 a]=(Vd c a).map λr=>(.i .i64 r.2,[some (.box (XO r.1))]):=by
 obtain⟨rfl⟩:=A;rw[HM];simp-dsimp+contextual(maxSteps:=1000000)only[↓QW,eZ,seval,func35,f35,Qsk,Qcy,It,aG]
 try simp only[Vd,eY]
 repeat rfl
def O4(i){C c D l}[A:QD XO C c][B:QC VL D l]:LP T (n+3) 37 3 (Vm [(0,.ptr 0 0 0),(3,.sl 1),(4,.i .i64 i)]) [some (.box C),some (.lst 3 D)]=(run JE (c,l,i)).map (λzr=>(XE.exit 0,Vm [(0,.ptr 0 0 0),(3,.sl 1)],[some (.box (XO zr.1)),some (.lst 3 (zr.2.map VL))])):=by
 rcases A,B with⟨⟨rfl⟩,⟨rfl⟩⟩
 rw[Vh];simp-dsimp only[↓QW,Zt,QX,func37,f37,Qhk,y0,TP,TZ,seval];apply HC c l i;intro c l i;simp-dsimp+contextual only[↓QW,eZ,seval,It,XB]
 try simp only[JE,eY]
 repeat rfl
def Ug{B c}[A:QD XO B c]:CA T (n+4) 37 [some (.box B)] [.ptr 0 0 0]=(Cv c).map λr=>(.sl 1,[some (.box (XO r.1)),some (.lst 3 (r.2.map VL))]):=by
 obtain⟨rfl⟩:=A;rw[HM];simp-dsimp+contextual(maxSteps:=1000000)only[↓QW,eZ,seval,func37,f37,Qhk,y0,It,O4]
 try simp only[Cv,eY]
 repeat rfl
def Rl(i){C l D o}[A:QC V2 C l][B:QC Vy D o]:LP T (n+1) 171 3 (Vm [(0,.imm 3 C),(3,.sl 0),(4,.i .i64 i)]) [some (.lst 3 D)]=(run (AJ l) (o,i)).map (λzr=>(XE.exit 0,Vm [(3,.sl 0)],[some (.lst 3 (zr.map Vy))])):=by
 rcases A,B with⟨⟨rfl⟩,⟨rfl⟩⟩
 rw[Vh];simp-dsimp only[↓QW,Zt,QX,func171,f171,QaY,mE,TP,TZ,seval];apply VF o i;intro o i;simp-dsimp+contextual only[↓QW,eZ,seval]
 try simp only[AJ,eY]
 repeat rfl
def Nj{B l}[A:QC V2 B l]:CP T (n+2) 171 [.imm 3 B]=(J9 l).map λr=>.own 3 (r.map Vy):=by
 obtain⟨rfl⟩:=A;rw[QU];simp-dsimp+contextual only[↓QW,eZ,seval,func171,f171,QaY,mE,Rl]
 try simp only[J9,eY]
 all_goals first|rfl|(simp +contextual only[I1]<;>rfl)
def Ai{B a}[A:QD Vo B a]:CP T (n+3) 94 [.agg B]=(Vk a).map λr=>.agg (X4 r):=by
 obtain⟨rfl⟩:=A;rw[QU];simp-dsimp+contextual(maxSteps:=1000000)only[↓QW,eZ,seval,func94,f94,QsX,QeP,Nj]
 try simp only[Vk,eY]
 repeat rfl
def JN(a l m):CP T (n+1) 104 [.i .i64 a,.i .i64 l,.i .i64 m]=(QO a l m).map λr=>.b r:=by
 rw[QU];simp-dsimp+contextual only[↓QW,eZ,seval,func104,f104,Qho,uR]
 try simp only[QO,eY]
 repeat rfl
def IH{B a}[A:QD ET B a]:CP T (n+2) 188 [.agg B]=(JB a).map λr=>.b r:=by
 obtain⟨rfl⟩:=A;rw[QU];simp-dsimp+contextual only[↓QW,eZ,seval,func188,f188,Qhb,ua,JN]
 try simp only[JB,eY]
 repeat rfl
def ay{B f}[A:QD Vx B f]:CP T (n+3) 240 [.agg B]=(X0 f).map λr=>.b r:=by
 obtain⟨rfl⟩:=A;rw[QU];simp-dsimp+contextual only[↓QW,eZ,seval,func240,f240,Qh4,rl,IH,JN]
 try simp only[X0,eY]
 repeat rfl
def Pd(i){B l}[A:QC Vx B l]:LP T (n+4) 172 2 (Vm [(0,.imm 8 B),(3,.i .i64 i)]) []=JR (run (VQ l) i) (λzr=>(XE.ret,Vm [(2,.b zr)],[])) (λzr=>(XE.exit 0,Vm [(0,.imm 8 (l.map Vx))],[])):=by
 obtain⟨rfl⟩:=A;rw[Vh];simp-dsimp only[↓QW,Zt,QX,func172,f172,Qb0,mN,TP,TZ,seval];apply Q9 i;intro i;simp-dsimp+contextual only[↓QW,eZ,seval,ay]
 try simp only[VQ,eY]
 repeat rfl
def Mr{B l}[A:QC Vx B l]:CP T (n+5) 172 [.imm 8 B]=(X9 l).map λr=>.b r:=by
 obtain⟨rfl⟩:=A;rw[QU];simp-dsimp+contextual only[↓QW,eZ,seval,func172,f172,Qb0,mN,Pd]
 try simp only[X9,eY]
 repeat rfl
def PE(i){B l}[A:QC X6 B l]:LP T (n+2) 192 2 (Vm [(0,.imm 2 B),(3,.i .i64 i)]) []=JR (run (Zn l) i) (λzr=>(XE.ret,Vm [(2,.b zr)],[])) (λzr=>(XE.exit 0,Vm [(0,.imm 2 (l.map X6))],[])):=by
 obtain⟨rfl⟩:=A;rw[Vh];simp-dsimp only[↓QW,Zt,QX,func192,f192,QbT,mh,TP,TZ,seval];apply Q9 i;intro i;simp-dsimp+contextual only[↓QW,eZ,seval,JN]
 try simp only[Zn,eY]
 repeat rfl
def FV{B l}[A:QC X6 B l]:CP T (n+3) 192 [.imm 2 B]=(J0 l).map λr=>.b r:=by
 obtain⟨rfl⟩:=A;rw[QU];simp-dsimp+contextual only[↓QW,eZ,seval,func192,f192,QbT,mh,PE]
 try simp only[J0,eY]
 repeat rfl
def Nq(i){B l}[A:QC V2 B l]:LP T (n+4) 173 2 (Vm [(0,.imm 3 B),(3,.i .i64 i)]) []=JR (run (Ze l) i) (λzr=>(XE.ret,Vm [(2,.b zr)],[])) (λzr=>(XE.exit 0,Vm [(0,.imm 3 (l.map V2))],[])):=by
 obtain⟨rfl⟩:=A;rw[Vh];simp-dsimp only[↓QW,Zt,QX,func173,f173,Qbz,kl,TP,TZ,seval];apply Q9 i;intro i;simp-dsimp+contextual only[↓QW,eZ,seval,JN,FV]
 try simp only[Ze,eY]
 repeat rfl
def Ki{B l}[A:QC V2 B l]:CP T (n+5) 173 [.imm 3 B]=(J8 l).map λr=>.b r:=by
 obtain⟨rfl⟩:=A;rw[QU];simp-dsimp+contextual only[↓QW,eZ,seval,func173,f173,Qbz,kl,Nq]
 try simp only[J8,eY]
 repeat rfl
def O7(i k){B l}[A:QC VL B l]:LP T (n+1) 174 7 (Vm [(0,.imm 3 B),(3,.i .i64 i),(4,.i .i64 k)]) []=JR (run (V7 l i) k) (λzr=>(XE.ret,Vm [(2,.b zr)],[])) (λzr=>(XE.exit 2,Vm [(0,.imm 3 (l.map VL)),(3,.i .i64 i)],[])):=by
 obtain⟨rfl⟩:=A;rw[Vh];simp-dsimp only[↓QW,Zt,QX,func174,f174,pI,fR,TP,TZ,seval];apply Q9 k;intro k;simp-dsimp+contextual only[↓QW,eZ,seval]
 try simp only[V7,eY]
 repeat rfl
def Po(i){B l}[A:QC VL B l]:LP T (n+2) 174 2 (Vm [(0,.imm 3 B),(3,.i .i64 i)]) []=JR (run (VC l) i) (λzr=>(XE.ret,Vm [(2,.b zr)],[])) (λzr=>(XE.exit 0,Vm [(0,.imm 3 (l.map VL))],[])):=by
 obtain⟨rfl⟩:=A;rw[Vh];simp-dsimp only[↓QW,Zt,QX,func174,f174,pI,fR,TP,TZ,seval];apply Q9 i;intro i;simp-dsimp+contextual only[↓QW,eZ,seval,JN,O7]
 try simp only[VC,eY]
 repeat rfl
def HY{B l}[A:QC VL B l]:CP T (n+3) 174 [.imm 3 B]=(Jb l).map λr=>.b r:=by
 obtain⟨rfl⟩:=A;rw[QU];simp-dsimp+contextual only[↓QW,eZ,seval,func174,f174,pI,fR,Po]
 try simp only[Jb,eY]
 repeat rfl
def Oq(i k){C l D a}[A:QC Q1 C l][B:QD Q1 D a]:LP T (n+1) 175 8 (Vm [(0,.imm 5 C),(3,.i .i64 i),(4,.ptr 0 0 0),(5,.i .i64 k)]) [some (.box D)]=JR (run (ZF l i a) k) (λzr=>(XE.ret,Vm [(2,.b zr)],[])) (λzr=>(XE.exit 2,Vm [(0,.imm 5 (l.map Q1)),(3,.i .i64 i)],[])):=by
 rcases A,B with⟨⟨rfl⟩,⟨rfl⟩⟩
 rw[Vh];simp-dsimp only[↓QW,Zt,QX,func175,f175,tG,gP,TP,TZ,seval];apply Q9 k;intro k;simp-dsimp+contextual only[↓QW,eZ,seval]
 try simp only[ZF,eY]
 repeat rfl
def Ob(i){B l}[A:QC Q1 B l]:LP T (n+2) 175 2 (Vm [(0,.imm 5 B),(3,.i .i64 i)]) []=JR (run (VZ l) i) (λzr=>(XE.ret,Vm [(2,.b zr)],[])) (λzr=>(XE.exit 0,Vm [(0,.imm 5 (l.map Q1))],[])):=by
 obtain⟨rfl⟩:=A;rw[Vh];simp-dsimp only[↓QW,Zt,QX,func175,f175,tG,gP,TP,TZ,seval];apply Q9 i;intro i;simp-dsimp+contextual only[↓QW,eZ,seval,JN,Oq]
 try simp only[VZ,eY]
 repeat rfl
def Hl{B l}[A:QC Q1 B l]:CP T (n+3) 175 [.imm 5 B]=(VM l).map λr=>.b r:=by
 obtain⟨rfl⟩:=A;rw[QU];simp-dsimp+contextual only[↓QW,eZ,seval,func175,f175,tG,gP,Ob]
 try simp only[VM,eY]
 repeat rfl
def Yr(a m):CP T (n+2) 247 [.i .i64 a,.i .i64 m]=(GO a m).map λr=>.i .i64 r:=by
 rw[QU];simp-dsimp+contextual only[↓QW,eZ,seval,func247,f247,QmL,rH,JN]
 try simp only[GO,eY]
 repeat rfl
def ae(d i){B l}[A:QC Vn B l]:LP T (n+3) 248 3 (Vm [(0,.imm 1 B),(3,.i .i64 d),(4,.i .i64 i)]) []=(run (Za l) (d,i)).map (λzr=>(XE.exit 0,Vm [(3,.i .i64 zr)],[])):=by
 obtain⟨rfl⟩:=A;rw[Vh];simp-dsimp only[↓QW,Zt,QX,func248,f248,QbO,lC,TP,TZ,seval];apply VF d i;intro d i;simp-dsimp+contextual only[↓QW,eZ,seval,Yr]
 try simp only[Za,eY]
 repeat rfl
def TX{B l}[A:QC Vn B l]:CP T (n+4) 248 [.imm 1 B]=(Dd l).map λr=>.i .i64 r:=by
 obtain⟨rfl⟩:=A;rw[QU];simp-dsimp+contextual only[↓QW,eZ,seval,func248,f248,QbO,lC,ae]
 try simp only[Dd,eY]
 repeat rfl
def Mn(b){B a}[A:QD V0 B a]:CP T (n+5) 241 [.i .i64 b,.agg B]=(A4 b a).map λr=>.i .i64 r:=by
 obtain⟨rfl⟩:=A;rw[QU];simp-dsimp+contextual only[↓QW,eZ,seval,func241,f241,Qiz,qq,TX]
 try simp only[A4,eY]
 repeat rfl
def Sd(a b k i){B l}[A:QC V0 B l]:LP T (n+1) 242 3 (Vm [(0,.imm 5 B),(1,.i .i64 a),(2,.i .i64 b),(7,.i .i64 k),(8,.i .i64 i)]) []=(run (AB l a b) (k,i)).map (λzr=>(XE.exit 0,Vm [(7,.i .i64 zr)],[])):=by
 obtain⟨rfl⟩:=A;rw[Vh];simp-dsimp only[↓QW,Zt,QX,func242,f242,Qb6,lh,TP,TZ,seval];apply VF k i;intro k i;simp-dsimp+contextual only[↓QW,eZ,seval]
 try simp only[AB,eY]
 repeat rfl
def MT(a b){B l}[A:QC V0 B l]:CP T (n+2) 242 [.imm 5 B,.i .i64 a,.i .i64 b]=(Ft l a b).map λr=>.i .i64 r:=by
 obtain⟨rfl⟩:=A;rw[QU];simp-dsimp+contextual only[↓QW,eZ,seval,func242,f242,Qb6,lh,Sd]
 try simp only[Ft,eY]
 repeat rfl
def Su(s i){B l}[A:QC V0 B l]:LP T (n+6) 176 3 (Vm [(0,.imm 5 B),(3,.i .i64 s),(4,.i .i64 i)]) []=JR (run (Vz l) (s,i)) (λzr=>(XE.ret,Vm [(2,.b zr)],[])) (λzr=>(XE.exit 0,Vm [(0,.imm 5 (l.map V0))],[])):=by
 obtain⟨rfl⟩:=A;rw[Vh];simp-dsimp only[↓QW,Zt,QX,func176,f176,QbN,kj,TP,TZ,seval];apply VF s i;intro s i;simp-dsimp+contextual only[↓QW,eZ,seval,Mn,JN,MT]
 try simp only[Vz,eY]
 repeat rfl
def IQ{B l}[A:QC V0 B l]:CP T (n+7) 176 [.imm 5 B]=(Xu l).map λr=>.b r:=by
 obtain⟨rfl⟩:=A;rw[QU];simp-dsimp+contextual only[↓QW,eZ,seval,func176,f176,QbN,kj,Su]
 try simp only[Xu,eY]
 repeat rfl
def M1(i){B l}[A:QC VX B l]:LP T (n+2) 177 2 (Vm [(0,.imm 4 B),(3,.i .i64 i)]) []=JR (run (VO l) i) (λzr=>(XE.ret,Vm [(2,.b zr)],[])) (λzr=>(XE.exit 0,Vm [(0,.imm 4 (l.map VX))],[])):=by
 obtain⟨rfl⟩:=A;rw[Vh];simp-dsimp only[↓QW,Zt,QX,func177,f177,Qbj,lO,TP,TZ,seval];apply Q9 i;intro i;simp-dsimp+contextual only[↓QW,eZ,seval,JN]
 try simp only[VO,eY]
 repeat rfl
def I6{B l}[A:QC VX B l]:CP T (n+3) 177 [.imm 4 B]=(VR l).map λr=>.b r:=by
 obtain⟨rfl⟩:=A;rw[QU];simp-dsimp+contextual only[↓QW,eZ,seval,func177,f177,Qbj,lO,M1]
 try simp only[VR,eY]
 repeat rfl
def Uu(a k){B l}[A:QC Vn B l]:LP T (n+1) 277 2 (Vm [(0,.imm 1 B),(1,.i .i64 a),(5,.i .i64 k)]) []=(run (Ja l a) k).map (λzr=>(XE.exit 0,Vm [(0,.imm 1 (l.map Vn)),(1,.i .i64 a),(5,.i .i64 zr)],[])):=by
 obtain⟨rfl⟩:=A;rw[Vh];simp-dsimp only[↓QW,Zt,QX,func277,f277,QaZ,mp,TP,TZ,seval];apply Q9 k;intro k;simp-dsimp+contextual only[↓QW,eZ,seval]
 try simp only[Ja,eY]
 try simp only[List.contains_nil,Qi,Bool.and_true,Xy,List.length_append,List.length_cons,List.length_nil,Nat.zero_add,Xt,X3]
 repeat rfl
def du(a){B l}[A:QC Vn B l]:CP T (n+2) 277 [.imm 1 B,.i .i64 a]=(BC l a).map λr=>.own 1 (r.map Vn):=by
 obtain⟨rfl⟩:=A;rw[QU];simp-dsimp+contextual only[↓QW,eZ,seval,func277,f277,QaZ,mp,Uu]
 try simp only[BC,eY]
 try simp only[List.contains_nil,Qi,Bool.and_true,Xy,List.length_append,List.length_cons,List.length_nil,Nat.zero_add,Xt,X3]
 all_goals first|rfl|(simp +contextual only[I1]<;>rfl)
def RL(a i){C l D o}[A:QC V0 C l][B:QC Vn D o]:LP T (n+8) 243 3 (Vm [(0,.imm 5 C),(1,.i .i64 a),(5,.sl 0),(6,.i .i64 i)]) [some (.lst 1 D)]=(run (BR l a) (o,i)).map (λzr=>(XE.exit 0,Vm [(5,.sl 0)],[some (.lst 1 (zr.map Vn))])):=by
 rcases A,B with⟨⟨rfl⟩,⟨rfl⟩⟩
 rw[Vh];simp-dsimp only[↓QW,Zt,QX,func243,f243,QbM,mo,TP,TZ,seval];apply VF o i;intro o i;simp-dsimp+contextual only[↓QW,eZ,seval,IQ,MT,du]
 try simp only[BR,eY]
 repeat rfl
def aa(a){B l}[A:QC V0 B l]:CP T (n+9) 243 [.imm 5 B,.i .i64 a]=(Cj l a).map λr=>.own 1 (r.map Vn):=by
 obtain⟨rfl⟩:=A;rw[QU];simp-dsimp+contextual only[↓QW,eZ,seval,func243,f243,QbM,mo,RL]
 try simp only[Cj,eY]
 all_goals first|rfl|(simp +contextual only[I1]<;>rfl)
def N7(i i2){B l}[A:QC Vx B l]:LP T (n+1) 106 2 (Vm [(0,.imm 8 B),(1,.i .i64 i),(5,.i .i64 i2)]) []=JR (run (Ay l i) i2) (λzr=>(XE.ret,Vm [(4,.i .i64 zr)],[])) (λzr=>(XE.exit 0,Vm [],[])):=by
 obtain⟨rfl⟩:=A;rw[Vh];simp-dsimp only[↓QW,Zt,QX,func106,f106,Qbu,mL,TP,TZ,seval];apply Q9 i2;intro i2;simp-dsimp+contextual only[↓QW,eZ,seval]
 try simp only[Ay,eY]
 repeat rfl
def FC(i){B l}[A:QC Vx B l]:CP T (n+2) 106 [.imm 8 B,.i .i64 i]=(Xv l i).map λr=>.i .i64 r:=by
 obtain⟨rfl⟩:=A;rw[QU];simp-dsimp+contextual only[↓QW,eZ,seval,func106,f106,Qbu,mL,N7]
 try simp only[Xv,eY]
 repeat rfl
def SJ(a i){B l}[A:QC VL B l]:LP T (n+1) 103 2 (Vm [(0,.imm 3 B),(1,.i .i64 a),(5,.i .i64 i)]) []=JR (run (ZG l a) i) (λzr=>(XE.ret,Vm [(4,.i .i64 zr)],[])) (λzr=>(XE.exit 0,Vm [],[])):=by
 obtain⟨rfl⟩:=A;rw[Vh];simp-dsimp only[↓QW,Zt,QX,func103,f103,QbS,lD,TP,TZ,seval];apply Q9 i;intro i;simp-dsimp+contextual only[↓QW,eZ,seval]
 try simp only[ZG,eY]
 repeat rfl
def Ht(a){B l}[A:QC VL B l]:CP T (n+2) 103 [.imm 3 B,.i .i64 a]=(ZN l a).map λr=>.i .i64 r:=by
 obtain⟨rfl⟩:=A;rw[QU];simp-dsimp+contextual only[↓QW,eZ,seval,func103,f103,QbS,lD,SJ]
 try simp only[ZN,eY]
 repeat rfl
def Uf(a i){B l}[A:QC Vn B l]:LP T (n+1) 244 2 (Vm [(0,.imm 1 B),(1,.i .i64 a),(5,.i .i64 i)]) []=JR (run (D7 l a) i) (λzr=>(XE.ret,Vm [(4,.b zr)],[])) (λzr=>(XE.exit 0,Vm [],[])):=by
 obtain⟨rfl⟩:=A;rw[Vh];simp-dsimp only[↓QW,Zt,QX,func244,f244,Qbs,lI,TP,TZ,seval];apply Q9 i;intro i;simp-dsimp+contextual only[↓QW,eZ,seval]
 try simp only[D7,eY]
 repeat rfl
def dA(a){B l}[A:QC Vn B l]:CP T (n+2) 244 [.imm 1 B,.i .i64 a]=(Dx l a).map λr=>.b r:=by
 obtain⟨rfl⟩:=A;rw[QU];simp-dsimp+contextual only[↓QW,eZ,seval,func244,f244,Qbs,lI,Uf]
 try simp only[Dx,eY]
 repeat rfl
def Oe(i2){C a D i}[A:QD Vo C a][B:QC Vn D i]:LP T (n+3) 178 5 (Vm [(1,.ptr 0 0 0),(3,.sl 1),(4,.i .i64 i2)]) [some (.box C),some (.lst 1 D)]=JR (run (ZD a i) i2) (λzr=>(XE.ret,Vm [(2,.b zr)],[])) (λzr=>(XE.exit 0,Vm [(1,.ptr 0 0 0),(3,.sl 1)],[some (.box (Vo a)),some (.lst 1 (i.map Vn))])):=by
 rcases A,B with⟨⟨rfl⟩,⟨rfl⟩⟩
 rw[Vh];simp-dsimp only[↓QW,Zt,QX,func178,f178,l8,ba,TP,TZ,seval];apply Q9 i2;intro i2;simp-dsimp+contextual(maxSteps:=1000000)only[↓QW,eZ,seval,FC]
 try simp only[ZD,eY]
 repeat rfl
def M7(i2){C a D i}[A:QD Vo C a][B:QC Vn D i]:LP T (n+3) 178 10 (Vm [(1,.ptr 0 0 0),(3,.sl 1),(5,.i .i64 i2)]) [some (.box C),some (.lst 1 D)]=JR (run (Zd a i) i2) (λzr=>(XE.ret,Vm [(2,.b zr)],[])) (λzr=>(XE.exit 2,Vm [(1,.ptr 0 0 0)],[some (.box (Vo a))])):=by
 rcases A,B with⟨⟨rfl⟩,⟨rfl⟩⟩
 rw[Vh];simp-dsimp only[↓QW,Zt,QX,func178,f178,l8,ba,TP,TZ,seval];apply Q9 i2;intro i2;simp-dsimp+contextual(maxSteps:=1000000)only[↓QW,eZ,seval,Ht,dA]
 try simp only[Zd,eY]
 repeat rfl
def MK(i){B a}[A:QD Vo B a]:LP T (n+3) 178 16 (Vm [(1,.ptr 0 0 0),(7,.i .i64 i)]) [some (.box B)]=JR (run (XG a) i) (λzr=>(XE.ret,Vm [(2,.b zr)],[])) (λzr=>(XE.exit 4,Vm [],[])):=by
 obtain⟨rfl⟩:=A;rw[Vh];simp-dsimp only[↓QW,Zt,QX,func178,f178,l8,ba,TP,TZ,seval];apply Q9 i;intro i;simp-dsimp+contextual(maxSteps:=1000000)only[↓QW,eZ,seval,FC]
 try simp only[XG,eY]
 repeat rfl
def Tl{B a}[A:QD Vo B a]:CP T (n+10) 178 [.agg B]=(Af a).map λr=>.b r:=by
 obtain⟨rfl⟩:=A;rw[QU];simp-dsimp+contextual(maxSteps:=1000000)only[↓QW,eZ,seval,func178,f178,l8,ba,aa,Oe,M7,MK]
 try simp only[Af,eY]
 repeat rfl
def MZ{B a}[A:QD VH B a]:CP T (n+2) 191 [.agg B]=(DJ a).map λr=>.b r:=by
 obtain⟨rfl⟩:=A;rw[QU];simp-dsimp+contextual only[↓QW,eZ,seval,func191,f191,Qnz,uG,JN]
 try simp only[DJ,eY]
 repeat rfl
def P3(a i){B l}[A:QC V2 B l]:LP T (n+1) 189 2 (Vm [(0,.imm 3 B),(1,.i .i64 a),(5,.i .i64 i)]) []=JR (run (BV l a) i) (λzr=>(XE.ret,Vm [(4,.i .i64 zr)],[])) (λzr=>(XE.exit 0,Vm [],[])):=by
 obtain⟨rfl⟩:=A;rw[Vh];simp-dsimp only[↓QW,Zt,QX,func189,f189,QaX,lM,TP,TZ,seval];apply Q9 i;intro i;simp-dsimp+contextual only[↓QW,eZ,seval]
 try simp only[BV,eY]
 repeat rfl
def YN(a){B l}[A:QC V2 B l]:CP T (n+2) 189 [.imm 3 B,.i .i64 a]=(Iq l a).map λr=>.i .i64 r:=by
 obtain⟨rfl⟩:=A;rw[QU];simp-dsimp+contextual only[↓QW,eZ,seval,func189,f189,QaX,lM,P3]
 try simp only[Iq,eY]
 repeat rfl
def ID(a){B l}[A:QC V2 B l]:CP T (n+3) 113 [.imm 3 B,.i .i64 a]=(AP l a).map λr=>.own 2 (r.map X6):=by
 obtain⟨rfl⟩:=A;rw[QU];simp-dsimp+contextual only[↓QW,eZ,seval,func113,f113,Qkt,uC,YN]
 try simp only[AP,eY]
 all_goals first|rfl|(simp +contextual only[I1]<;>rfl)
def Pv(a b):CP T (n+1) 98 [.i .i64 a,.i .i64 b]=(GV a b).map λr=>.i .i64 r:=by
 rw[QU];simp-dsimp+contextual only[↓QW,eZ,seval,func98,f98,Qoy,Qdk]
 try simp only[GV,eY]
 repeat rfl
def Y1{B l}[A:QC X6 B l]:CP T (n+2) 193 [.imm 2 B]=(GH l).map λr=>.i .i64 r:=by
 obtain⟨rfl⟩:=A;rw[QU];simp-dsimp+contextual only[↓QW,eZ,seval,func193,f193,QiQ,tF,Pv]
 try simp only[GH,eY]
 repeat rfl
def GR{C l D a}[A:QC X6 C l][B:QD VH D a]:CP T (n+4) 117 [.imm 2 C,.agg D]=(AI l a).map λr=>.i .i64 r:=by
 rcases A,B with⟨⟨rfl⟩,⟨rfl⟩⟩
 rw[QU];simp-dsimp+contextual only[↓QW,eZ,seval,func117,f117,QjW,uh,MZ,FV,Y1]
 try simp only[AI,eY]
 repeat rfl
def Od(i){B a}[A:QD Vo B a]:LP T (n+5) 179 4 (Vm [(1,.ptr 0 0 0),(3,.i .i64 i)]) [some (.box B)]=JR (run (Ap a) i) (λzr=>(XE.ret,Vm [(2,.b zr)],[])) (λzr=>(XE.exit 0,Vm [],[])):=by
 obtain⟨rfl⟩:=A;rw[Vh];simp-dsimp only[↓QW,Zt,QX,func179,f179,Qb3,ms,TP,TZ,seval];apply Q9 i;intro i;simp-dsimp+contextual(maxSteps:=1000000)only[↓QW,eZ,seval,FC,MZ,ID,GR]
 try simp only[Ap,eY]
 repeat rfl
def Tu{B a}[A:QD Vo B a]:CP T (n+6) 179 [.agg B]=(Ak a).map λr=>.b r:=by
 obtain⟨rfl⟩:=A;rw[QU];simp-dsimp+contextual(maxSteps:=1000000)only[↓QW,eZ,seval,func179,f179,Qb3,ms,Od]
 try simp only[Ak,eY]
 repeat rfl
def GL{B a}[A:QD Vo B a]:CP T (n+11) 95 [.agg B]=(Vv a).map λr=>.b r:=by
 obtain⟨rfl⟩:=A;rw[QU];simp-dsimp+contextual(maxSteps:=1000000)only[↓QW,eZ,seval,func95,f95,Qp5,QgA,JN,Mr,Ki,HY,Hl,IQ,I6,Tl,Tu]
 try simp only[Vv,eY]
 repeat rfl
def OF(a i){B l}[A:QC VL B l]:LP T (n+1) 96 3 (Vm [(0,.imm 3 B),(3,.i .i64 a),(4,.i .i64 i)]) []=(run (XA l) (a,i)).map (λzr=>(XE.exit 0,Vm [(3,.i .i64 zr)],[])):=by
 obtain⟨rfl⟩:=A;rw[Vh];simp-dsimp only[↓QW,Zt,QX,func96,f96,Ql4,xQ,TP,TZ,seval];apply VF a i;intro a i;simp-dsimp+contextual only[↓QW,eZ,seval]
 try simp only[XA,eY]
 repeat rfl
def Tc{B l}[A:QC VL B l]:CP T (n+2) 96 [.imm 3 B]=(Bw l).map λr=>.i .i64 r:=by
 obtain⟨rfl⟩:=A;rw[QU];simp-dsimp+contextual only[↓QW,eZ,seval,func96,f96,Ql4,xQ,OF]
 try simp only[Bw,eY]
 repeat rfl
def Un(a){B s}[A:QC VL B s]:CP T (n+12) 36 [.i .i64 a,.imm 3 B]=(XU a s).map λr=>.tup [.agg (X4 r.1),.b r.2]:=by
 obtain⟨rfl⟩:=A;rw[QU];simp-dsimp+contextual(maxSteps:=1000000)only[↓QW,eZ,seval,func36,f36,Qrj,QdL,Ai,GL,Tc]
 try simp only[XU,eY]
 repeat rfl
def aF(i){B c}[A:QD XO B c]:CA T (n+3) 180 [some (.box B)] [.ptr 0 0 0,.i .i64 i]=(HI c i).map λr=>(.agg (ET r.2),[some (.box (XO r.1))]):=by
 obtain⟨rfl⟩:=A;rw[HM];simp-dsimp+contextual(maxSteps:=1000000)only[↓QW,eZ,seval,func180,f180,Qix,tX,It,XB]
 try simp only[HI,eY]
 repeat rfl
def aO(i){B c}[A:QD XO B c]:CA T (n+4) 97 [some (.box B)] [.ptr 0 0 0,.i .i64 i]=(HJ c i).map λr=>(.agg (Vx r.2),[some (.box (XO r.1))]):=by
 obtain⟨rfl⟩:=A;rw[HM];simp-dsimp+contextual(maxSteps:=1000000)only[↓QW,eZ,seval,func97,f97,Qsz,QfK,It,aF,XB]
 try simp only[HJ,eY]
 repeat rfl
def Mg{C c D l}[A:QD XO C c][B:QC Vn D l]:CA T (n+3) 41 [some (.box C),some (.lst 1 D)] [.ptr 0 0 0,.sl 1]=(Cq c l).map λr=>(.i .i64 r.2,[some (.box (XO r.1)),some (.lst 1 (l.map Vn))]):=by
 rcases A,B with⟨⟨rfl⟩,⟨rfl⟩⟩
 rw[HM];simp-dsimp+contextual(maxSteps:=1000000)only[↓QW,eZ,seval,func41,f41,Qr2,Qdf,It,XB]
 try simp only[Cq,eY]
 repeat rfl
def RE(k){C l D m}[A:QC X6 C l][B:QD X6 D m]:LP T (n+1) 246 2 (Vm [(0,.imm 2 C),(3,.ptr 0 0 0),(6,.i .i64 k)]) [some (.box D)]=(run (AF l m) k).map (λzr=>(XE.exit 0,Vm [(0,.imm 2 (l.map X6)),(3,.ptr 0 0 0),(6,.i .i64 zr)],[some (.box (X6 m))])):=by
 rcases A,B with⟨⟨rfl⟩,⟨rfl⟩⟩
 rw[Vh];simp-dsimp only[↓QW,Zt,QX,func246,f246,Qax,lE,TP,TZ,seval];apply Q9 k;intro k;simp-dsimp+contextual only[↓QW,eZ,seval]
 try simp only[AF,eY]
 try simp only[List.contains_nil,Qi,Bool.and_true,Xy,List.length_append,List.length_cons,List.length_nil,Nat.zero_add,Xt,X3]
 repeat rfl
def WV{C l D m}[A:QC X6 C l][B:QD X6 D m]:CP T (n+4) 246 [.imm 2 C,.agg D]=(G3 l m).map λr=>.tup [.own 2 (r.1.map X6),.b r.2]:=by
 rcases A,B with⟨⟨rfl⟩,⟨rfl⟩⟩
 rw[QU];simp-dsimp+contextual only[↓QW,eZ,Nat.reduceAdd,Nat.reduceMul,Nat.reduceBEq,Nat.reduceLeDiff,Nat.reduceLT,func246,f246,Qax,lE,FV,RE]
 try simp only[G3,eY]
 try simp only[List.contains_nil,Qi,Bool.and_true,Xy,List.length_append,List.length_cons,List.length_nil,Nat.zero_add,Xt,X3]
 all_goals first|rfl|(simp +contextual only[I1]<;>rfl)
def Ss(i){C c D l}[A:QD XO C c][B:QC X6 D l]:LP T (n+5) 185 3 (Vm [(0,.ptr 0 0 0),(3,.sl 1),(4,.i .i64 i)]) [some (.box C),some (.lst 2 D)]=(run BT (c,l,i)).map (λzr=>(XE.exit 0,Vm [(0,.ptr 0 0 0),(3,.sl 1)],[some (.box (XO zr.1)),some (.lst 2 (zr.2.map X6))])):=by
 rcases A,B with⟨⟨rfl⟩,⟨rfl⟩⟩
 rw[Vh];simp-dsimp only[↓QW,Zt,QX,func185,f185,QaC,mc,TP,TZ,seval];apply HC c l i;intro c l i;simp-dsimp+contextual only[↓QW,eZ,seval,It,XB,WV]
 try simp only[BT,eY]
 repeat rfl
def U7{B c}[A:QD XO B c]:CA T (n+6) 185 [some (.box B)] [.ptr 0 0 0]=(GX c).map λr=>(.sl 1,[some (.box (XO r.1)),some (.lst 2 (r.2.map X6))]):=by
 obtain⟨rfl⟩:=A;rw[HM];simp-dsimp+contextual(maxSteps:=1000000)only[↓QW,eZ,seval,func185,f185,QaC,mc,It,XB,Ss]
 try simp only[GX,eY]
 repeat rfl
def ax(a){B c}[A:QD XO B c]:CA T (n+7) 100 [some (.box B)] [.ptr 0 0 0,.i .i64 a]=(HH c a).map λr=>(.agg [.i .i64 r.2.Qo,.sl 1,.i .i64 r.2.Salt],[some (.box (XO r.1)),some (.lst 2 (r.2.Marks.map X6))]):=by
 obtain⟨rfl⟩:=A;rw[HM];simp-dsimp+contextual(maxSteps:=1000000)only[↓QW,eZ,seval,func100,f100,QnD,qF,It,U7,XB]
 try simp only[HH,eY]
 repeat rfl
end Go.Proofs.YtfhnbabcbhgffaaGreatDoor
